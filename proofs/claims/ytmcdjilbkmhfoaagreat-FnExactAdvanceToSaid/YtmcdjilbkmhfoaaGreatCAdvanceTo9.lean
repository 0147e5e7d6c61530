/- A part of the proof of the statement in the last file of this claim: texts on the language of the program and on its functions. No condition. -/
import Derived.Test.YtmcdjilbkmhfoaaGreatCAdvanceTo7
import Derived.Test.YtmcdjilbkmhfoaaGreatCAdvanceTo8
import Derived.Test.YtmcdjilbkmhfoaaGreatCAdvanceTo6
import Derived.Deep.RegionHeld3
import Derived.Test.YtmcdjilbkmhfoaaGreatCAdvanceTo5
namespace Go.Proofs.YtmcdjilbkmhfoaaGreat
set_option maxRecDepth 10000
open Go.RowKit
set_option linter.unusedVariables false
set_option linter.unusedSimpArgs false
structure ZFk (w:World) (S:Nat→Prop) (x:YWorld) (v0 v1 v3 v4 v5 v7 v8:Value):Prop where
 r0:RepC w S (.sl (x.network.legs.map cLeg)) v0
 r1:RepC w S (.sl (x.network.off.map cInt)) v1
 r3:RepC w S (.sl (x.orders.map cOrder)) v3
 r4:RepC w S (.sl (x.bookings.map cBooking)) v4
 r5:RepC w S (.sl (x.closed.map cTrip)) v5
 r7:RepC w S (.sl (x.scans.map cScan)) v7
 r8:RepC w S (.sl (x.skip.map cInt)) v8
theorem ZFk.ext {w w':World} {S S':Nat→Prop} {x:YWorld} {v0 v1 v3 v4 v5 v7 v8:Value} (h:ZFk w S x v0 v1 v3 v4 v5 v7 v8) (hS:∀ b,S b→S' b) (hc:∀ b,S b→w'.heap[b]?=w.heap[b]?):ZFk w' S' x v0 v1 v3 v4 v5 v7 v8:=by
 have hc':∀ b o,S b→w'.cell? ⟨b,o,none⟩=w.cell? ⟨b,o,none⟩:=fun b o hb=>ZfQ (hc b hb)
 exact ⟨h.r0.ext hS hc',h.r1.ext hS hc',h.r3.ext hS hc',h.r4.ext hS hc',h.r5.ext hS hc',h.r7.ext hS hc',h.r8.ext hS hc'⟩
theorem ZFk.up {w w':World} {x:YWorld} {v0 v1 v3 v4 v5 v7 v8:Value} (h:ZFk w (AllS w) x v0 v1 v3 v4 v5 v7 v8) (hu:Up w w'):ZFk w' (AllS w') x v0 v1 v3 v4 v5 v7 v8:=
 h.ext (fun b hb=>Nat.lt_of_lt_of_le hb hu.size) (fun b hb=>hu.block b hb)
theorem ZGu {es:List (List PV)} {w:World} {S:Nat→Prop} {v:Value} (h:RepC w S (.sl es) v):v.oneCell'=true:=by
 obtain ⟨A,c,rfl⟩:=ZEb h; rfl
theorem ZFk.rep {w:World} {S:Nat→Prop} {x:YWorld} {v0 v1 v3 v4 v5 v7 v8:Value} (h:ZFk w S x v0 v1 v3 v4 v5 v7 v8):Rep w (E1 S (fun _=>none) 0) (.ag (cWorld x)) (.agg #[v0,v1,.int .i64 x.network.change,v3,v4,v5,.int .i64 x.now,v7,v8,.int .i64 x.made]):=by
 refine .ag _ _ rfl (fun j y hj=>?_) (fun j p y hp hy=>?_)
 ·match j,hj with
  | 0,hj=>obtain rfl:=Option.some.inj hj; exact ZGu h.r0
  | 1,hj=>obtain rfl:=Option.some.inj hj; exact ZGu h.r1
  | 2,hj=>obtain rfl:=Option.some.inj hj; rfl
  | 3,hj=>obtain rfl:=Option.some.inj hj; exact ZGu h.r3
  | 4,hj=>obtain rfl:=Option.some.inj hj; exact ZGu h.r4
  | 5,hj=>obtain rfl:=Option.some.inj hj; exact ZGu h.r5
  | 6,hj=>obtain rfl:=Option.some.inj hj; rfl
  | 7,hj=>obtain rfl:=Option.some.inj hj; exact ZGu h.r7
  | 8,hj=>obtain rfl:=Option.some.inj hj; exact ZGu h.r8
  | 9,hj=>obtain rfl:=Option.some.inj hj; rfl
  | n+10,hj=>simp at hj
 ·match j,hp,hy with
  | 0,hp,hy=>obtain rfl:=Option.some.inj hp; obtain rfl:=Option.some.inj hy; exact .c h.r0
  | 1,hp,hy=>obtain rfl:=Option.some.inj hp; obtain rfl:=Option.some.inj hy; exact .c h.r1
  | 2,hp,hy=>obtain rfl:=Option.some.inj hp; obtain rfl:=Option.some.inj hy; exact .c (.v _ rfl)
  | 3,hp,hy=>obtain rfl:=Option.some.inj hp; obtain rfl:=Option.some.inj hy; exact .c h.r3
  | 4,hp,hy=>obtain rfl:=Option.some.inj hp; obtain rfl:=Option.some.inj hy; exact .c h.r4
  | 5,hp,hy=>obtain rfl:=Option.some.inj hp; obtain rfl:=Option.some.inj hy; exact .c h.r5
  | 6,hp,hy=>obtain rfl:=Option.some.inj hp; obtain rfl:=Option.some.inj hy; exact .c (.v _ rfl)
  | 7,hp,hy=>obtain rfl:=Option.some.inj hp; obtain rfl:=Option.some.inj hy; exact .c h.r7
  | 8,hp,hy=>obtain rfl:=Option.some.inj hp; obtain rfl:=Option.some.inj hy; exact .c h.r8
  | 9,hp,hy=>obtain rfl:=Option.some.inj hp; obtain rfl:=Option.some.inj hy; exact .c (.v _ rfl)
  | n+10,hp,hy=>simp [cWorld] at hp
theorem worldR_of {w:World} {x:YWorld} {cs:Array Value} (h:Reads w (cWorld x) cs.toList):∃ u0 u1 u3 u4 u5 u7 u8,cs=#[u0,u1,.int .i64 x.network.change,u3,u4,u5,.int .i64 x.now,u7,u8,.int .i64 x.made]∧ZFk w (AllS w) x u0 u1 u3 u4 u5 u7 u8:=by
 obtain ⟨cs⟩:=cs
 have hl:=h.1
 match cs,hl,h with
 | [a0,a1,a2,a3,a4,a5,a6,a7,a8,a9],_,h=>
  have h2:=(h.2 2 _ a2 rfl rfl).2
  have h6:=(h.2 6 _ a6 rfl rfl).2
  have h9:=(h.2 9 _ a9 rfl rfl).2
  cases h2; cases h6; cases h9
  exact ⟨a0,a1,a3,a4,a5,a7,a8,rfl,⟨(h.2 0 _ a0 rfl rfl).2,(h.2 1 _ a1 rfl rfl).2,(h.2 3 _ a3 rfl rfl).2,(h.2 4 _ a4 rfl rfl).2,(h.2 5 _ a5 rfl rfl).2,(h.2 7 _ a7 rfl rfl).2,(h.2 8 _ a8 rfl rfl).2⟩⟩
theorem ZF7 (x:YWorld) (ht:totWorld x≤1048576) {u0 u1 u3 u4 u5 u7 u8:Value} {w:World} (h:ZFk w (AllS w) x u0 u1 u3 u4 u5 u7 u8):
 Calls Tryz.prog 17 #[.agg #[u0,u1,.int .i64 x.network.change,u3,u4,u5,.int .i64 x.now,u7,u8,.int .i64 x.made]] w fun e w'=>∃ v0 v1 v3 v4 v5 v7 v8,e=.returned (.agg #[v0,v1,.int .i64 x.network.change,v3,v4,v5,.int .i64 x.now,v7,v8,.int .i64 x.made])∧Up w w'∧ZGz w' w.heap.size v0 v1 v3 v4 v5 v7 v8∧ZFk w' (AllS w') x v0 v1 v3 v4 v5 v7 v8:=by
 have hf:=ZHd ht
 have htt:totWorld x=totNetwork x.network+totS totOrder x.orders+x.bookings.length+x.closed.length+totS totScan x.scans+x.skip.length:=rfl
 have htn:totNetwork x.network=totS totLeg x.network.legs+x.network.off.length:=rfl
 have hos:totS totOrder x.orders=x.orders.length+(x.orders.map totOrder).sum:=rfl
 have hws:=ZIr (l:=x.orders)
 refine (ZHV x ⟨hf.net.legs,hf.net.off⟩ (fun y hy=>by have:=ZFQ totLeg hy; omega) ⟨hf.orders,hf.bookings,hf.closed,hf.scans,hf.skip⟩ hf.way (fun y hy=>by have:=ZFQ totScan hy; omega) (S:=AllS w) (fun b hb=>hb) h.r0 h.r1 h.r3 h.r4 h.r5 h.r7 h.r8).mono ?_
 rintro e w' ⟨v0,v1,v3,v4,v5,v7,v8,rfl,hu,⟨s0,r0⟩,⟨s1,r1⟩,⟨s3,r3⟩,⟨s4,r4⟩,⟨s5,r5⟩,⟨s7,r7⟩,⟨s8,r8⟩⟩
 have hN:∀ b,NewS (AllS w) w w' b→AllS w' b:=by
  rintro b (h | h)
  ·exact Nat.lt_of_lt_of_le h hu.size
  ·exact h.2
 have ex:∀ {p:PV} {y:Value},RepC w' (NewS (AllS w) w w') p y→RepC w' (AllS w') p y:=fun h=>h.ext hN (fun _ _ _=>rfl)
 exact ⟨v0,v1,v3,v4,v5,v7,v8,rfl,hu,⟨⟨_,hf.net.legs,s0⟩,⟨_,hf.net.off,s1⟩,⟨_,by simpa using hf.orders,by omega,s3⟩,⟨_,hf.bookings,s4⟩,⟨_,hf.closed,s5⟩,⟨_,hf.scans,s7⟩,⟨_,hf.skip,s8⟩⟩,⟨ex r0,ex r1,ex r3,ex r4,ex r5,ex r7,ex r8⟩⟩
section
variable {P:Program}
theorem CallM.val {f:FuncId} {args:List PV} {v:Value} (h:CallM P f args [] (.v v) []) {w:World} {vs:Array Value} (hl:vs.size=args.length) (ha:∀ (i:Nat) (p:PV),args[i]?=some p→∃ x,vs[i]?=some x∧Rep w (E1 (AllS w) (fun _=>none) 0) p x):
 Calls P f vs w fun e w'=>e=.returned v∧Up w w':=by
 refine (h (AllS w) (fun _=>none) w vs (fun _ _=>False) (ZHP w) hl ha).mono ?_
 rintro e w' ⟨x,E',rfl,hk,_,_,_,hr⟩
 obtain ⟨rfl,_⟩:=hr.v_inv
 exact ⟨rfl,ZGj hk⟩
end
theorem arg2 {w:World} {E:Env} {p q:PV} {u v:Value} (hp:Rep w E p u) (hq:Rep w E q v):∀ (i:Nat) (r:PV),[p,q][i]?=some r→∃ x,#[u,v][i]?=some x∧Rep w E r x:=by
 intro i r hr
 match i,hr with
 | 0,hr=>obtain rfl:=Option.some.inj hr; exact ⟨_,rfl,hp⟩
 | 1,hr=>obtain rfl:=Option.some.inj hr; exact ⟨_,rfl,hq⟩
 | n+2,hr=>simp at hr
theorem Own.repc {w:World} {B:Nat} {T:TypeId} {v:Value} {xs:List Int} (h:Own w B T v xs):RepC w (AllS w) (.sl (xs.map cInt)) v:=by
 rcases h.2 with ⟨rfl,h0⟩ | ⟨g,cap,cur,rfl,hB,hg,hnc,hcm,hcs,ht⟩
 ·have:xs=[]:=List.length_eq_zero_iff.1 h0
  subst this
  exact .nil _ _
 ·have hat:∀ (i:Nat) (cs:List PV) (j:Nat) (p:PV),(xs.map cInt)[i]?=some cs→cs[j]?=some p→∃ n:Int,j=0∧p=vi n∧w.cell? ⟨g,0+i*1+j,none⟩=some (.int .i64 n):=by
   intro i cs j p hi hj
   rw [List.getElem?_map] at hi
   obtain ⟨n,hn,rfl⟩:=Option.map_eq_some_iff.1 hi
   cases j with
   | succ j=>simp [cInt] at hj
   | zero=>
    obtain rfl:vi n=p:=by simpa [cInt] using hj
    refine ⟨n,rfl,rfl,?_⟩
    have hf:=Zh4 hn (j:=0) (u:=I n) rfl
    rw [show Enc.k Int=1 from rfl] at hf
    have hlt:=(List.getElem?_eq_some_iff.1 hf).1
    have h2:(cur.toList.take (xs.length*Enc.k Int))[i*1+0]?=(flat xs)[i*1+0]?:=by rw [ht]
    rw [List.getElem?_take_of_lt (by rw [ZeL] at hlt; exact hlt),Array.getElem?_toList,hf] at h2
    rw [cell_of_row w g _ cur T (0,0) hg]
    simpa using h2
  have h:=RepC.sl (w:=w) (S:=AllS w) (xs.map cInt) g 0 1 cap (fun i j=>(w.cell? ⟨g,0+i*1+j,none⟩).getD .nilIface) (Array.getElem?_eq_some_iff.1 hg).1 (by decide) (by simpa using hnc) hcm
   (fun i cs hi=>by rw [List.getElem?_map] at hi; obtain ⟨n,_,rfl⟩:=Option.map_eq_some_iff.1 hi; rfl)
   (fun i cs j p hi hj=>by obtain ⟨n,_,_,h⟩:=hat i cs j p hi hj; rw [h]; rfl)
   (fun i cs j p hi hj=>by obtain ⟨n,_,_,h⟩:=hat i cs j p hi hj; rw [h]; rfl)
   (fun i cs j p hi hj=>by obtain ⟨n,_,rfl,h⟩:=hat i cs j p hi hj; rw [h]; exact .v _ rfl)
  simpa only [List.length_map] using h
theorem ZHz {w:World} {x:YWorld} (ht:totWorld x≤1048576) {v0 v1 v3 v4 v5 v7 v8 u0 u1 u3 u4 u5 u7 u8:Value} (h:ZFk w (AllS w) x v0 v1 v3 v4 v5 v7 v8) (h':ZFk w (AllS w) x u0 u1 u3 u4 u5 u7 u8):
 Calls Tryz.prog 19 #[.agg #[v0,v1,.int .i64 x.network.change,v3,v4,v5,.int .i64 x.now,v7,v8,.int .i64 x.made],.agg #[u0,u1,.int .i64 x.network.change,u3,u4,u5,.int .i64 x.now,u7,u8,.int .i64 x.made]] w fun e w'=>e=.returned (.bool true)∧Up w w':=
 CallM.val (ZFI x x (ZHB x ht)) rfl (arg2 h.rep h'.rep)
theorem ZGU {w:World} {x:YWorld} {y:Int} (hy:ZEz x 1048576=some y) {v0 v1 v3 v4 v5 v7 v8:Value} (h:ZFk w (AllS w) x v0 v1 v3 v4 v5 v7 v8):
 Calls Tryz.prog 15 #[.agg #[v0,v1,.int .i64 x.network.change,v3,v4,v5,.int .i64 x.now,v7,v8,.int .i64 x.made],.int .i64 1048576] w fun e w'=>e=.returned (.int .i64 y)∧Up w w':=
 CallM.val (ZFT x 1048576 hy) rfl (arg2 h.rep (.c (.v _ rfl)))
theorem Rd.int {w:World} {B:Nat} {A:Option Addr} {xs:List Int} {i:Nat} {x:Int} (h:Rd w B A xs) (hx:xs[i]?=some x):
 ∃ b off,A=some ⟨b,off,none⟩∧b<B∧w.cell? ⟨b,off+i,none⟩=some (I x):=by
 obtain ⟨b,off,e,hb,hc⟩:=h.at_ hx
 have h0:=hc 0 _ rfl
 have:off+i*Enc.k Int+0=off+i:=by show off+i*1+0=off+i; omega
 rw [this] at h0
 exact ⟨b,off,e,hb,h0⟩
theorem ZcG {w w':World} {b o:Nat} {v:Value} (hu:Up w w') (h:w.cell? ⟨b,o,none⟩=some v):w'.cell? ⟨b,o,none⟩=some v:=(hu.cell (p:=⟨b,o,none⟩) (World.block_lt_of_cell? _ _ h)).trans h
theorem Own.mk' {D:Nat→Prop} {w w':World} {B:Nat} {T:TypeId} {v:Value} {xs:List Int} (h:Own w B T v xs) (m:Mk KPT D w w') (hD:∀ g,v.ownBlock=some g→¬ D g):Own w' B T v xs:=by
 refine ⟨h.1,?_⟩
 rcases h.2 with h2 | ⟨g,cap,cur,hv,hB,hg,r⟩
 ·exact .inl h2
 ·exact .inr ⟨g,cap,cur,hv,hB,(m.low g (Array.getElem?_eq_some_iff.1 hg).1 (hD g (by rw [hv]; rfl))).trans hg,r⟩
theorem Up.mk' {D:Nat→Prop} {w a b:World} (h:Up w a) (m:Mk KPT D a b) (hD:∀ g,D g→w.heap.size≤g):Up w b:=
 ⟨m.os.trans h.os,m.tape.trans h.tape,m.output.trans h.output,Nat.le_trans h.size m.size,fun g hg=>(m.low g (Nat.lt_of_lt_of_le hg h.size) (fun hd=>by have:=hD g hd; omega)).trans (h.block g hg)⟩
set_option maxRecDepth 100000
set_option maxHeartbeats 4000000
theorem RB.repc {w:World} {T:TypeId} {k:Nat} {es0:List (List PV)} {B:Blk} (h:RB w T k es0 B) (es:List (List PV)) (hn:es.length=es0.length) (hk:∀ (i:Nat) (cs:List PV),es[i]?=some cs→cs.length=k)
 (hc:B.z=false→∀ (i:Nat) (cs:List PV) (j:Nat) (p:PV),es[i]?=some cs→cs[j]?=some p→∃ x,w.cell? ⟨B.b,i*k+j,none⟩=some x∧x.oneCell'=true∧RepC w (AllS w) p x):RepC w (AllS w) (.sl es) B.sv:=by
 have hBk:B.k=k:=h.k
 have hBn:B.n=es0.length:=h.n
 cases hz:B.z with
 | true=>
  have h0:es0=[]:=h.nil hz
  have:es=[]:=List.length_eq_zero_iff.1 (by rw [hn,h0]; rfl)
  subst this
  simp only [Blk.sv,hz,if_true]
  exact .nil _ _
 | false=>
  have hlt:=RB.lt h hz
  have hc:=hc hz
  have hat:∀ (i:Nat) (cs:List PV) (j:Nat) (p:PV),es[i]?=some cs→cs[j]?=some p→w.cell? ⟨B.b,0+i*k+j,none⟩=some ((w.cell? ⟨B.b,0+i*k+j,none⟩).getD .nilIface):=fun i cs j p hi hj=>by
   obtain ⟨x,a,_,_⟩:=hc i cs j p hi hj
   rw [Nat.zero_add,a]; rfl
  have hx:∀ (i:Nat) (cs:List PV) (j:Nat) (p:PV),es[i]?=some cs→cs[j]?=some p→((w.cell? ⟨B.b,0+i*k+j,none⟩).getD .nilIface).oneCell'=true∧RepC w (AllS w) p ((w.cell? ⟨B.b,0+i*k+j,none⟩).getD .nilIface):=fun i cs j p hi hj=>by
   obtain ⟨x,a,b,c⟩:=hc i cs j p hi hj
   rw [Nat.zero_add,a]
   exact ⟨b,c⟩
  have e:B.sv=.slice (some ⟨B.b,0,none⟩) es.length B.c:=by
   simp only [Blk.sv,hz]
   rw [hBn,hn]; rfl
  rw [e]
  exact .sl es B.b 0 k B.c _ hlt (by rw [← hBk]; exact h.pos) (by rw [hn,← hBn]; exact h.nc) h.cm hk hat (fun i cs j p hi hj=>(hx i cs j p hi hj).1) (fun i cs j p hi hj=>(hx i cs j p hi hj).2)
theorem RB.cell {w:World} {T:TypeId} {k:Nat} {es:List (List PV)} {B:Blk} (h:RB w T k es B) (hz:B.z=false) {i j:Nat} {cs:List PV} {p:PV} (hi:es[i]?=some cs) (hj:cs[j]?=some p):∃ x,w.cell? ⟨B.b,i*k+j,none⟩=some x∧x.oneCell'=true∧Rep w E00 p x:=by
 obtain ⟨cells,m1,m2,m3⟩:=h.mem hz
 obtain ⟨x,a,b,c⟩:=m3 i cs j p hi hj
 have hBk:B.k=k:=h.k
 rw [hBk] at a
 exact ⟨x,by rw [cell_of_row w B.b _ cells B.T (0,0) m1]; exact a,b,c⟩
theorem RB.flat {w:World} {T:TypeId} {k:Nat} {es:List (List PV)} {B:Blk} (h:RB w T k es B) (hf:∀ cs∈es,∀ p∈cs,∃ v,p=.v v):RepC w (AllS w) (.sl es) B.sv:=
 RB.repc h es rfl (fun i cs hi=>(h.es i cs hi).trans h.k) fun hz i cs j p hi hj=>by
  obtain ⟨x,a,b,c⟩:=RB.cell h hz hi hj
  obtain ⟨v,rfl⟩:=hf cs (List.mem_of_getElem? hi) p (List.mem_of_getElem? hj)
  obtain ⟨rfl,h1⟩:=c.v_inv
  exact ⟨x,a,b,.v _ h1⟩
theorem WayB.repc {w:World} {way:List YTrip} {u:Value} {B:Blk} (h:WayB w way u B):RepC w (AllS w) (.sl (way.map cTrip)) u:=by
 rcases h with ⟨rfl,_,A,c,rfl⟩ | ⟨_,rfl,hb⟩
 ·exact .nil A c
 ·exact RB.flat hb fun cs hcs p hp=>ZFR hcs hp
theorem ZH5 {o:YOrder} {u:Value} {j:Nat} {p:PV} (h:(cOrder o)[j]?=some p) (h6:j≠6):(∃ v,p=.v v)∧(cOU o u)[j]?=some p:=by
 match j,h with
 | 0,h | 1,h | 2,h | 3,h | 4,h | 5,h | 7,h | 8,h | 9,h | 10,h=>obtain rfl:=Option.some.inj h; exact ⟨⟨_,rfl⟩,rfl⟩
 | 6,h=>exact absurd rfl h6
 | j+11,h=>simp [cOrder] at h
theorem GW.rep {w:World} {g:YWorld} {us:Nat→Value} {W:Nat→Blk} {B0 B1 B3 B4 B5 B7 B8:Blk} (h:GW w g us W B0 B1 B3 B4 B5 B7 B8):ZFk w (AllS w) g B0.sv B1.sv B3.sv B4.sv B5.sv B7.sv B8.sv where
 r0:=RB.flat h.r0 fun cs hcs p hp=>ZGg hcs hp
 r1:=RB.flat h.r1 fun cs hcs p hp=>ZFP hcs hp
 r3:=RB.repc h.r3 _ (by rw [ZF5,List.length_map]) (fun i cs hi=>by
  obtain ⟨o,_,rfl⟩:=List.mem_map.1 (List.mem_of_getElem? hi); rfl) fun hz i cs j p hi hj=>by
  rw [List.getElem?_map] at hi
  obtain ⟨o,ho,rfl⟩:=Option.map_eq_some_iff.1 hi
  by_cases h6:j=6
  ·subst h6
   obtain ⟨x,a,b,c⟩:=RB.cell h.r3 hz (ZG7 (us:=us) ho) (j:=6) (p:=.v (us i)) rfl
   obtain ⟨rfl,_⟩:=c.v_inv
   obtain rfl:=Option.some.inj hj
   exact ⟨_,a,b,(h.way i o ho).repc⟩
  ·obtain ⟨⟨v,rfl⟩,hj'⟩:=ZH5 (u:=us i) hj h6
   obtain ⟨x,a,b,c⟩:=RB.cell h.r3 hz (ZG7 (us:=us) ho) hj'
   obtain ⟨rfl,h1⟩:=c.v_inv
   exact ⟨_,a,b,.v _ h1⟩
 r4:=RB.flat h.r4 fun cs hcs p hp=>ZFJ hcs hp
 r5:=RB.flat h.r5 fun cs hcs p hp=>ZFR hcs hp
 r7:=RB.flat h.r7 fun cs hcs p hp=>ZF0 hcs hp
 r8:=RB.flat h.r8 fun cs hcs p hp=>ZFP hcs hp
structure OwnW (w a:World) (g:YWorld) (us:Nat→Value) (W:Nat→Blk) (B0 B1 B3 B4 B5 B7 B8:Blk):Prop where
 gw:GW a g us W B0 B1 B3 B4 B5 B7 B8
 gd:GD g.orders.length W B0 B1 B3 B4 B5 B7 B8
 new:∀ b,GB g.orders W B0 B1 B3 B4 B5 B7 B8 b→w.heap.size≤b
section
variable {P:Program}
theorem CallM.world {f:FuncId} {args:List PV} {g:YWorld} (h:CallM P f args [] (aggW g) (ZIn g)) {w:World} {vs:Array Value} (hl:vs.size=args.length) (ha:∀ (i:Nat) (p:PV),args[i]?=some p→∃ x,vs[i]?=some x∧Rep w (E1 (AllS w) (fun _=>none) 0) p x):
 Calls P f vs w fun e a=>∃ us W B0 B1 B3 B4 B5 B7 B8,e=.returned (.agg #[Blk.sv B0,Blk.sv B1,.int .i64 g.network.change,Blk.sv B3,Blk.sv B4,Blk.sv B5,.int .i64 g.now,Blk.sv B7,Blk.sv B8,.int .i64 g.made])∧Up w a∧OwnW w a g us W B0 B1 B3 B4 B5 B7 B8:=by
 refine (h (AllS w) (fun _=>none) w vs (fun _ _=>False) (ZHP w) hl ha).mono ?_
 rintro e a ⟨v,E,rfl,hk,_,_,⟨_,hω⟩,hr⟩
 obtain ⟨B0,B1,B3,B4,B5,B7,B8,us,W,rfl,g1,g2,g3⟩:=ZIB hk (fun b=>ZFW) (fun b q hq=>by
  rcases hω b q hq with h | h | h
  ·exact h.elim
  ·exact h
  ·exact absurd h ZFW) hr
 exact ⟨us,W,B0,B1,B3,B4,B5,B7,B8,rfl,ZGj hk,g1,g2,g3⟩
end
def ZIC (g:YWorld):Mem:=[some ⟨.of 67,6,g.network.legs.map cLeg⟩,some ⟨.of 3,1,g.network.off.map cInt⟩,some ⟨.of 62,11,g.orders.map cOrder⟩,some ⟨.of 135,4,g.bookings.map cBooking⟩,some ⟨.of 55,2,g.closed.map cTrip⟩,some ⟨.of 130,6,g.scans.map cScan⟩,some ⟨.of 3,1,g.skip.map cInt⟩]
structure OwnV (w a:World) (g:YWorld) (us:Nat→Value) (W:Nat→Blk) (B0 B1 B3 B4 B5 B7 B8:Blk) (v0 v1 v3 v4 v5 v7 v8:Value):Prop extends OwnW w a g us W B0 B1 B3 B4 B5 B7 B8 where
 e0:v0=B0.sv
 e1:v1=B1.sv
 e3:v3=B3.sv
 e4:v4=B4.sv
 e5:v5=B5.sv
 e7:v7=B7.sv
 e8:v8=B8.sv
section
variable {w a b:World} {g:YWorld} {us:Nat→Value} {W:Nat→Blk} {B0 B1 B3 B4 B5 B7 B8:Blk} {v0 v1 v3 v4 v5 v7 v8:Value}
theorem OwnV.rep (h:OwnV w a g us W B0 B1 B3 B4 B5 B7 B8 v0 v1 v3 v4 v5 v7 v8):ZFk a (AllS a) g v0 v1 v3 v4 v5 v7 v8:=by
 rw [h.e0,h.e1,h.e3,h.e4,h.e5,h.e7,h.e8]; exact h.gw.rep
theorem OwnV.up (h:OwnV w a g us W B0 B1 B3 B4 B5 B7 B8 v0 v1 v3 v4 v5 v7 v8) (hu:Up a b):OwnV w b g us W B0 B1 B3 B4 B5 B7 B8 v0 v1 v3 v4 v5 v7 v8:=
 { h with gw:=h.gw.keepO (UpO.of hu) fun _ _ h=>h }
theorem Mk.upo {TO:TypeId→Nat→Prop} {D:Nat→Prop} (m:Mk TO D a b):UpO D a b:=⟨m.os,m.tape,m.output,m.size,m.low⟩
theorem OwnV.mk' {TO:TypeId→Nat→Prop} {D:Nat→Prop} (h:OwnV w a g us W B0 B1 B3 B4 B5 B7 B8 v0 v1 v3 v4 v5 v7 v8) (m:Mk TO D a b) (hD:∀ q,D q→q<w.heap.size):OwnV w b g us W B0 B1 B3 B4 B5 B7 B8 v0 v1 v3 v4 v5 v7 v8:=
 { h with gw:=h.gw.keepO m.upo fun q hq hd=>by have:=h.new q hq; have:=hD q hd; omega }
theorem Up.upo {O:Nat→Prop} (h:Up w a) (k:UpO O a b) (hO:∀ q,O q→w.heap.size≤q):Up w b:=
 ⟨k.os.trans h.os,k.tape.trans h.tape,k.output.trans h.output,Nat.le_trans h.size k.size,fun x hx=>(k.block x (Nat.lt_of_lt_of_le hx h.size) fun h'=>by have:=hO x h'; omega).trans (h.block x hx)⟩
theorem OwnV.mark (h:OwnV w a g us W B0 B1 B3 B4 B5 B7 B8 v0 v1 v3 v4 v5 v7 v8) (hf:ZGw g 1) (v2 v6 v9:Value):
 Calls Tryz.prog 20 #[.agg #[v0,v1,v2,v3,v4,v5,v6,v7,v8,v9],.int .i64 1] a fun e b=>e=.returned (.int .i64 (k6W g 1))∧ZFk b (AllS b) (mkW g 1) v0 v1 v3 v4 v5 v7 v8∧UpO (fun q=>w.heap.size≤q∧q<a.heap.size∧GB g.orders W B0 B1 B3 B4 B5 B7 B8 q) a b:=by
 refine (ZG5 v0 v1 v2 v3 v4 v5 v6 v7 v8 v9 h.e0 h.e1 h.e3 h.e4 h.e5 h.e7 h.e8 g 1 a h.gw h.gd hf).mono ?_
 rintro e b ⟨rfl,h1,h2⟩
 refine ⟨rfl,?_,h2.more fun q hq=>⟨h.new q hq,h.gw.lt hq,hq⟩⟩
 rw [h.e0,h.e1,h.e3,h.e4,h.e5,h.e7,h.e8]; exact h1.rep
theorem ZGo (hf:ZGw g 1) (hr:ZFk a (AllS a) (mkW g 1) v0 v1 v3 v4 v5 v7 v8):
 Calls Tryz.prog 21 #[.agg #[v0,v1,.int .i64 g.network.change,v3,v4,v5,.int .i64 g.now,v7,v8,.int .i64 g.made],.int .i64 1] a fun e b=>e=.returned (.int .i64 (k6W g 1))∧Up a b:=
 CallM.val (CT.ok (ZGL hf)) rfl (arg2 hr.rep (.c (.v _ rfl)))
end
theorem ZGk {w:World} {x:YWorld} (ht:ZEn x x=some true) {v0 v1 v3 v4 v5 v7 v8 u0 u1 u3 u4 u5 u7 u8:Value} (h:ZFk w (AllS w) x v0 v1 v3 v4 v5 v7 v8) (h':ZFk w (AllS w) x u0 u1 u3 u4 u5 u7 u8):
 Calls Tryz.prog 19 #[.agg #[v0,v1,.int .i64 x.network.change,v3,v4,v5,.int .i64 x.now,v7,v8,.int .i64 x.made],.agg #[u0,u1,.int .i64 x.network.change,u3,u4,u5,.int .i64 x.now,u7,u8,.int .i64 x.made]] w fun e w'=>e=.returned (.bool true)∧Up w w':=
 CallM.val (ZFI x x ht) rfl (arg2 h.rep h'.rep)
section
variable {P:Program}
theorem CallM.worldO {f:FuncId} {args:List PV} {g:YWorld} (h:CallM P f args [] (aggW g) (ZIn g)) {w:World} {vs:Array Value} (hl:vs.size=args.length) (ha:∀ (i:Nat) (p:PV),args[i]?=some p→∃ x,vs[i]?=some x∧Rep w (E1 (AllS w) (fun _=>none) 0) p x):
 Calls P f vs w fun e a=>∃ X0 c0 X1 c1 X3 c3 X4 c4 X5 c5 X7 c7 X8 c8 us W B0 B1 B3 B4 B5 B7 B8,e=.returned (.agg #[.slice X0 g.network.legs.length c0,.slice X1 g.network.off.length c1,.int .i64 g.network.change,.slice X3 g.orders.length c3,.slice X4 g.bookings.length c4,.slice X5 g.closed.length c5,.int .i64 g.now,.slice X7 g.scans.length c7,.slice X8 g.skip.length c8,.int .i64 g.made])∧Up w a∧
  OwnV w a g us W B0 B1 B3 B4 B5 B7 B8 (.slice X0 g.network.legs.length c0) (.slice X1 g.network.off.length c1) (.slice X3 g.orders.length c3) (.slice X4 g.bookings.length c4) (.slice X5 g.closed.length c5) (.slice X7 g.scans.length c7) (.slice X8 g.skip.length c8):=by
 refine (h.world hl ha).mono ?_
 rintro e a ⟨us,W,B0,B1,B3,B4,B5,B7,B8,rfl,hu,ho⟩
 obtain ⟨X0,c0,e0⟩:=ZEb ho.gw.rep.r0
 obtain ⟨X1,c1,e1⟩:=ZEb ho.gw.rep.r1
 obtain ⟨X3,c3,e3⟩:=ZEb ho.gw.rep.r3
 obtain ⟨X4,c4,e4⟩:=ZEb ho.gw.rep.r4
 obtain ⟨X5,c5,e5⟩:=ZEb ho.gw.rep.r5
 obtain ⟨X7,c7,e7⟩:=ZEb ho.gw.rep.r7
 obtain ⟨X8,c8,e8⟩:=ZEb ho.gw.rep.r8
 rw [List.length_map] at e0 e1 e3 e4 e5 e7 e8
 exact ⟨X0,c0,X1,c1,X3,c3,X4,c4,X5,c5,X7,c7,X8,c8,us,W,B0,B1,B3,B4,B5,B7,B8,by rw [e0,e1,e3,e4,e5,e7,e8],hu,⟨ho,e0.symm,e1.symm,e3.symm,e4.symm,e5.symm,e7.symm,e8.symm⟩⟩
theorem ZHE {l:List YOrder}:∀ cs∈l.map cOrder,∀ q∈cs,isC q=true:=by
 intro cs hcs q hq
 obtain ⟨o,_,rfl⟩:=List.mem_map.1 hcs
 simp only [cOrder,List.mem_cons,List.not_mem_nil,or_false] at hq
 repeat (first | (rcases hq with rfl | hq; rfl) | (subst hq; rfl))
theorem CallM.worldR {f:FuncId} {args:List PV} {g:YWorld} (h:CallM P f args [] (aggW g) (ZIC g)) {w:World} {vs:Array Value} (hl:vs.size=args.length) (ha:∀ (i:Nat) (p:PV),args[i]?=some p→∃ x,vs[i]?=some x∧Rep w (E1 (AllS w) (fun _=>none) 0) p x):
 Calls P f vs w fun e a=>∃ X0 c0 X1 c1 X3 c3 X4 c4 X5 c5 X7 c7 X8 c8,e=.returned (.agg #[.slice X0 g.network.legs.length c0,.slice X1 g.network.off.length c1,.int .i64 g.network.change,.slice X3 g.orders.length c3,.slice X4 g.bookings.length c4,.slice X5 g.closed.length c5,.int .i64 g.now,.slice X7 g.scans.length c7,.slice X8 g.skip.length c8,.int .i64 g.made])∧Up w a∧
  ZFk a (AllS a) g (.slice X0 g.network.legs.length c0) (.slice X1 g.network.off.length c1) (.slice X3 g.orders.length c3) (.slice X4 g.bookings.length c4) (.slice X5 g.closed.length c5) (.slice X7 g.scans.length c7) (.slice X8 g.skip.length c8):=by
 refine (h (AllS w) (fun _=>none) w vs (fun _ _=>False) (ZHP w) hl ha).mono ?_
 rintro e a ⟨v,E,rfl,hk,_,_,_,hr⟩
 obtain ⟨vs,rfl,hl,h1,hv⟩:=hr.ag_inv
 have hvl:vs.size=10:=hl
 have at_:∀ {j:Nat} {p:PV},j<10→[PV.ms 0,.ms 1,vi g.network.change,.ms 2,.ms 3,.ms 4,vi g.now,.ms 5,.ms 6,vi g.made][j]?=some p→∃ x,vs[j]?=some x∧Rep a E p x:=fun {j p} hj hp=>⟨vs[j]'(by omega),Array.getElem?_eq_getElem _,hv j p _ hp (Array.getElem?_eq_getElem _)⟩
 obtain ⟨x0,y0,z0⟩:=at_ (j:=0) (by omega) rfl
 obtain ⟨x1,y1,z1⟩:=at_ (j:=1) (by omega) rfl
 obtain ⟨x2,y2,z2⟩:=at_ (j:=2) (by omega) rfl
 obtain ⟨x3,y3,z3⟩:=at_ (j:=3) (by omega) rfl
 obtain ⟨x4,y4,z4⟩:=at_ (j:=4) (by omega) rfl
 obtain ⟨x5,y5,z5⟩:=at_ (j:=5) (by omega) rfl
 obtain ⟨x6,y6,z6⟩:=at_ (j:=6) (by omega) rfl
 obtain ⟨x7,y7,z7⟩:=at_ (j:=7) (by omega) rfl
 obtain ⟨x8,y8,z8⟩:=at_ (j:=8) (by omega) rfl
 obtain ⟨x9,y9,z9⟩:=at_ (j:=9) (by omega) rfl
 have hvs:vs=#[x0,x1,x2,x3,x4,x5,x6,x7,x8,x9]:=by
  apply Array.ext (by simp [hvl])
  intro i hi h3
  have e:=fun {j:Nat} {y:Value} (h:vs[j]?=some y)=>(Array.getElem?_eq_some_iff.1 h).2
  match i,hi with
  | 0,_=>simpa using e y0
  | 1,_=>simpa using e y1
  | 2,_=>simpa using e y2
  | 3,_=>simpa using e y3
  | 4,_=>simpa using e y4
  | 5,_=>simpa using e y5
  | 6,_=>simpa using e y6
  | 7,_=>simpa using e y7
  | 8,_=>simpa using e y8
  | 9,_=>simpa using e y9
  | i+10,hi=>omega
 obtain ⟨B0,b0,r0,rfl⟩:=z0.ms_inv hk (l:=0) rfl
 obtain ⟨B1,b1,r1,rfl⟩:=z1.ms_inv hk (l:=1) rfl
 obtain ⟨rfl,_⟩:=z2.v_inv
 obtain ⟨B3,b3,r3,rfl⟩:=z3.ms_inv hk (l:=2) rfl
 obtain ⟨B4,b4,r4,rfl⟩:=z4.ms_inv hk (l:=3) rfl
 obtain ⟨B5,b5,r5,rfl⟩:=z5.ms_inv hk (l:=4) rfl
 obtain ⟨rfl,_⟩:=z6.v_inv
 obtain ⟨B7,b7,r7,rfl⟩:=z7.ms_inv hk (l:=5) rfl
 obtain ⟨B8,b8,r8,rfl⟩:=z8.ms_inv hk (l:=6) rfl
 obtain ⟨rfl,_⟩:=z9.v_inv
 have hS:∀ b,E.S b→AllS a b:=fun b hb=>hk.sz b hb
 have hf:∀ {cs:List PV},(∀ p∈cs,∃ v,p=PV.v v)→∀ q∈cs,isC q=true:=fun h q hq=>by obtain ⟨v,rfl⟩:=h q hq; rfl
 have q0:RepC a (AllS a) (.sl (g.network.legs.map cLeg)) B0.sv:=row_all b0 r0 (fun cs hcs=>hf fun p hp=>ZGg hcs hp) hS fun hz=>(hk.own _ _ b0 hz).2.1
 have q1:RepC a (AllS a) (.sl (g.network.off.map cInt)) B1.sv:=row_all b1 r1 (fun cs hcs=>hf fun p hp=>ZFP hcs hp) hS fun hz=>(hk.own _ _ b1 hz).2.1
 have q3:RepC a (AllS a) (.sl (g.orders.map cOrder)) B3.sv:=row_all b3 r3 ZHE hS fun hz=>(hk.own _ _ b3 hz).2.1
 have q4:RepC a (AllS a) (.sl (g.bookings.map cBooking)) B4.sv:=row_all b4 r4 (fun cs hcs=>hf fun p hp=>ZFJ hcs hp) hS fun hz=>(hk.own _ _ b4 hz).2.1
 have q5:RepC a (AllS a) (.sl (g.closed.map cTrip)) B5.sv:=row_all b5 r5 (fun cs hcs=>hf fun p hp=>ZFR hcs hp) hS fun hz=>(hk.own _ _ b5 hz).2.1
 have q7:RepC a (AllS a) (.sl (g.scans.map cScan)) B7.sv:=row_all b7 r7 (fun cs hcs=>hf fun p hp=>ZF0 hcs hp) hS fun hz=>(hk.own _ _ b7 hz).2.1
 have q8:RepC a (AllS a) (.sl (g.skip.map cInt)) B8.sv:=row_all b8 r8 (fun cs hcs=>hf fun p hp=>ZFP hcs hp) hS fun hz=>(hk.own _ _ b8 hz).2.1
 obtain ⟨X0,c0,e0⟩:=ZEb q0
 obtain ⟨X1,c1,e1⟩:=ZEb q1
 obtain ⟨X3,c3,e3⟩:=ZEb q3
 obtain ⟨X4,c4,e4⟩:=ZEb q4
 obtain ⟨X5,c5,e5⟩:=ZEb q5
 obtain ⟨X7,c7,e7⟩:=ZEb q7
 obtain ⟨X8,c8,e8⟩:=ZEb q8
 rw [List.length_map] at e0 e1 e3 e4 e5 e7 e8
 rw [e0] at q0
 rw [e1] at q1
 rw [e3] at q3
 rw [e4] at q4
 rw [e5] at q5
 rw [e7] at q7
 rw [e8] at q8
 exact ⟨X0,c0,X1,c1,X3,c3,X4,c4,X5,c5,X7,c7,X8,c8,by rw [hvs,e0,e1,e3,e4,e5,e7,e8],ZGj hk,⟨q0,q1,q3,q4,q5,q7,q8⟩⟩
end
set_option maxHeartbeats 16000000
def ZaK (w:YWorld) (s0:Int × Int):Option ((Int × Int) ⊕ Int):=
 cond (decide (s0.2<(w.orders.length:Int)))
 ((getI w.orders s0.2).bind fun y1=>
 cond (decide (y1.state=2))
 ((getI y1.way y1.gone).bind fun y2=>
 (ZO w.network y2).bind fun y3=>
 cond (decide (0≤y3))
 (cond (decide (s0.1<0))
 (some (.inl (y3,(w64 (s0.2+1)))))
 (cond (decide (y3<s0.1))
 (some (.inl (y3,(w64 (s0.2+1)))))
 (some (.inl (s0.1,(w64 (s0.2+1)))))))
 (some (.inl (s0.1,(w64 (s0.2+1))))))
 (cond (decide (y1.state=1))
 (cond (decide (y1.gone<(y1.way.length:Int)))
 ((getI y1.way y1.gone).bind fun y4=>
 (ZH w.network y4).bind fun y5=>
 cond (decide (0≤y5))
 (cond (decide (s0.1<0))
 (some (.inl (y5,(w64 (s0.2+1)))))
 (cond (decide (y5<s0.1))
 (some (.inl (y5,(w64 (s0.2+1)))))
 (some (.inl (s0.1,(w64 (s0.2+1)))))))
 (some (.inl (s0.1,(w64 (s0.2+1))))))
 (cond (decide (0≤(-1)))
 (cond (decide (s0.1<0))
 (some (.inl ((-1),(w64 (s0.2+1)))))
 (cond (decide ((-1)<s0.1))
 (some (.inl ((-1),(w64 (s0.2+1)))))
 (some (.inl (s0.1,(w64 (s0.2+1)))))))
 (some (.inl (s0.1,(w64 (s0.2+1)))))))
 (cond (decide (0≤(-1)))
 (cond (decide (s0.1<0))
 (some (.inl ((-1),(w64 (s0.2+1)))))
 (cond (decide ((-1)<s0.1))
 (some (.inl ((-1),(w64 (s0.2+1)))))
 (some (.inl (s0.1,(w64 (s0.2+1)))))))
 (some (.inl (s0.1,(w64 (s0.2+1))))))))
 (some (.inr s0.1))
instance (w:YWorld):LoopE (ZaK w):=⟨fun s0=>(.un::.be 0 0 0::.un::vi s0.1::(U 4 (.sl (w.orders.map cOrder)::vi (w.orders.length:Int)::vi s0.2::(U 51 [])))),fun s0=>[some ⟨.of 41,10,[[.sl (w.network.legs.map cLeg),.sl (w.network.off.map cInt),vi w.network.change,.sl (w.orders.map cOrder),.sl (w.bookings.map cBooking),.sl (w.closed.map cTrip),vi w.now,.sl (w.scans.map cScan),.sl (w.skip.map cInt),vi w.made]]⟩]⟩
def ZbC (w:YWorld):Option Int:=
 (iterF (ZaK w) NN ((-1),0)).bind (fun o0=>
 some o0)
instance (w:YWorld):CT Tryz.prog (ZbC w):=⟨82,[.ag (cWorld w)],[],fun r=>vi r,fun r=>[],fun H=>by replace H:=H0 H; unfold ZbC at H; exact callM_of Tryz.func82 rfl Tryz.ntmps82 Tryz.results82 fun Q hQ hQn=>wk3⟩
def ZbT (w:YWorld) (s0:Int × Int):Option ((Int × Int) ⊕ Int):=
 cond (decide (s0.1<(w.orders.length:Int)))
 ((getI w.orders s0.1).bind fun y2=>
 cond (decide (y2.gone=(y2.way.length:Int)))
 (some (.inl ((w64 (s0.1+1)),s0.2)))
 ((getI y2.way y2.gone).bind fun y3=>
 (Zp w.network y3).bind fun y4=>
 cond (decide (y2.state=2))
 ((getI y2.way y2.gone).bind fun y5=>
 (Zq w.network y5).bind fun y6=>
 cond (decide (s0.2<0))
 (some (.inl ((w64 (s0.1+1)),y6)))
 (cond (decide (y6<s0.2))
 (some (.inl ((w64 (s0.1+1)),y6)))
 (some (.inl ((w64 (s0.1+1)),s0.2)))))
 (cond (decide (s0.2<0))
 (some (.inl ((w64 (s0.1+1)),y4)))
 (cond (decide (y4<s0.2))
 (some (.inl ((w64 (s0.1+1)),y4)))
 (some (.inl ((w64 (s0.1+1)),s0.2)))))))
 (some (.inr s0.2))
instance (w:YWorld):LoopE (ZbT w):=⟨fun s0=>(.un::.be 0 0 0::.un::vi s0.2::vi s0.1::(U 54 [])),fun s0=>[some ⟨.of 41,10,[[.sl (w.network.legs.map cLeg),.sl (w.network.off.map cInt),vi w.network.change,.sl (w.orders.map cOrder),.sl (w.bookings.map cBooking),.sl (w.closed.map cTrip),vi w.now,.sl (w.scans.map cScan),.sl (w.skip.map cInt),vi w.made]]⟩]⟩
def Zeg (w:YWorld):Option Int:=
 (Zbs w).bind fun y1=>
 cond (!y1)
 (some (-1))
 ((iterF (ZbT w) NN (0,(-1))).bind (fun o0=>
 some o0))
instance (w:YWorld):CT Tryz.prog (Zeg w):=⟨72,[.ag (cWorld w)],[],fun r=>vi r,fun r=>[],fun H=>by replace H:=H0 H; unfold Zeg at H; exact callM_of Tryz.func72 rfl Tryz.ntmps72 Tryz.results72 fun Q hQ hQn=>wk3⟩
set_option linter.unusedSectionVars false
structure Zxy (l:YLeg):Prop where
 start:0≤l.start∧l.start≤1439
 takes:1≤l.takes∧l.takes≤4320
 room:0≤l.room∧l.room≤1000000
theorem Zuo {l:YLeg} (h:Zna l) (hv:Za3 l=some true):Zxy l:=by
 obtain ⟨_,b1,s1⟩:=ZhE (s:=l.from_) h.1
 obtain ⟨_,b2,s2⟩:=ZhE (s:=l.to_) h.2
 unfold Za3 at hv
 rw [s1,s2] at hv
 simp only [Option.bind_some,ZbH] at hv
 cases b1 with
 | false=>simp at hv
 | true=>
 cases b2 with
 | false=>simp at hv
 | true=>
 simp only [cond_true] at hv
 cases h1:decide (l.from_=l.to_) with
 | true=>rw [h1] at hv; simp at hv
 | false=>
 rw [h1] at hv
 cases h2:decide (0≤l.start) && decide (l.start≤1439) with
 | false=>rw [h2] at hv; simp at hv
 | true=>
 rw [h2] at hv
 cases h3:decide (1≤l.takes) && decide (l.takes≤4320) with
 | false=>rw [h3] at hv; simp at hv
 | true=>
 rw [h3] at hv
 cases h4:decide (1≤l.days) && decide (l.days≤127) with
 | false=>rw [h4] at hv; simp at hv
 | true=>
 rw [h4] at hv
 cases h5:decide (0≤l.room) && decide (l.room≤1000000) with
 | false=>rw [h5] at hv; simp at hv
 | true=>
 simp only [Bool.and_eq_true,decide_eq_true_iff] at h2 h3 h5
 exact ⟨h2,h3,h5⟩
theorem Zkv {n:YNetwork} (h:Z0 n) (hn:Zi n=some true):∀ l∈n.legs,Zxy l:=by
 have e:iterF (ZD n) NN 0=some (if allI (fun _ l=>(Za3 l).getD false) 0 n.legs=true then .inl () else .inr false):=by
  refine Zfs (A:=Unit) (fun _ i=>i) _ (fun a _=>a) id (fun a i l hl=>?_) (fun a=>?_) (by have:=h.legs; unfold NN; omega) ()
  ·have hlt:=(List.getElem?_eq_some_iff.1 hl).1
   have hcl:=h.legs
   have hg:getI n.legs (i:Int)=some l:=by rw [Zn]; exact hl
   have hi:w64 ((i:Int)+1)=((i+1:Nat):Int):=ZR hlt (by omega)
   obtain ⟨_,b,hb⟩:=Zjx (h.leg l (List.mem_of_getElem? hl))
   unfold ZD
   simp only [decide_eq_true (show (i:Int)<n.legs.length by omega),cond_true,hg,Option.bind_some,hb,hi,Option.getD_some]
   cases b <;> rfl
  ·unfold ZD
   simp
 unfold Zi at hn
 rw [e] at hn
 by_cases ha:allI (fun _ l=>(Za3 l).getD false) 0 n.legs=true
 ·intro l hl
  obtain ⟨i,hi,rfl⟩:=List.getElem_of_mem hl
  have:=Zas.1 ha i _ (List.getElem?_eq_getElem hi)
  obtain ⟨_,b,hb⟩:=Zjx (h.leg _ (List.getElem_mem hi))
  rw [hb] at this
  simp at this
  subst this
  exact Zuo (h.leg _ (List.getElem_mem hi)) hb
 ·rw [if_neg ha] at hn
  simp at hn
theorem ZiH {n:YNetwork} {t:YTrip} (ht:ZbJ n t=true):0≤t.day∧t.day≤60:=by
 unfold ZbJ ZX at ht
 rw [ZbH,ZbH] at ht
 simp only [Option.bind_some] at ht
 cases h1:decide (0≤t.leg) && decide (t.leg≤w64 ((n.legs.length:Int)-1)) with
 | false=>rw [h1] at ht; simp at ht
 | true=>
 rw [h1] at ht
 simp only [cond_true] at ht
 cases h2:decide (0≤t.day) && decide (t.day≤60) with
 | false=>rw [h2] at ht; simp at ht
 | true=>simpa only [Bool.and_eq_true,decide_eq_true_iff] using h2
def ZM (n:YNetwork) (t:YTrip):Int:=(Zp n t).getD 0
def Z7 (n:YNetwork) (t:YTrip):Int:=(Zq n t).getD 0
theorem ZI {n:YNetwork} (h:Z0 n) (hn:Zi n=some true) {t:YTrip} (ht:ZbJ n t=true):
 Zp n t=some (ZM n t)∧Zq n t=some (Z7 n t)∧0≤ZM n t∧ZM n t<Z7 n t∧Z7 n t≤100000:=by
 obtain ⟨y,hy,hm⟩:=Zah h ht
 obtain ⟨d0,d1⟩:=ZiH ht
 have hl:=Zkv h hn y hm
 obtain ⟨a0,a1⟩:=hl.start
 obtain ⟨b0,b1⟩:=hl.takes
 have e1:Zp n t=some (t.day*1440+y.start):=by
  unfold Zp
  rw [hy]
  simp only [Option.bind_some]
  rw [Zo (n:=t.day*1440) (by omega),Zo (by omega)]
 have e2:Zq n t=some (t.day*1440+y.start+y.takes):=by
  unfold Zq
  rw [e1,hy]
  simp only [Option.bind_some]
  rw [Zo (by omega)]
 have s1:ZM n t=t.day*1440+y.start:=by unfold ZM; rw [e1]; rfl
 have s2:Z7 n t=t.day*1440+y.start+y.takes:=by unfold Z7; rw [e2]; rfl
 refine ⟨by rw [e1,s1],by rw [e2,s2],by omega,by omega,by omega⟩
theorem ZoX {n:YNetwork} {o:YOrder} {now:Int} (h:ZC n o now=some true):(o.state=1∧¬ (o.place=o.to_))∨(o.state=2∧o.gone<o.way.length)∨(o.state=3∧o.gone=o.way.length∧0<o.gone):=by
 by_cases h1:o.state=1
 ·refine .inl ⟨h1,fun hp=>?_⟩
  unfold ZC at h
  rw [decide_eq_true h1] at h
  cases h0:decide (0<o.gone) with
  | false=>
   rw [h0] at h
   simp only [cond_false,cond_true] at h
   cases hq:decide (o.place=o.from_) with
   | false=>rw [hq] at h; cases h
   | true=>
    rw [hq,decide_eq_true (show o.from_=o.to_ from (of_decide_eq_true hq).symm.trans hp)] at h
    cases h
  | true=>
   rw [h0] at h
   simp only [cond_false,cond_true] at h
   cases hg:getI o.way (w64 (o.gone-1)) with
   | none=>rw [hg] at h; cases h
   | some y1=>
    rw [hg] at h
    simp only [Option.bind_some] at h
    cases hl:getI n.legs y1.leg with
    | none=>rw [hl] at h; cases h
    | some y2=>
     rw [hl] at h
     simp only [Option.bind_some] at h
     cases he:Zq n y1 with
     | none=>rw [he] at h; cases h
     | some v=>
      rw [he] at h
      simp only [Option.bind_some] at h
      cases hc:decide (now<v) with
      | true=>rw [hc] at h; cases h
      | false=>
       rw [hc] at h
       simp only [cond_false] at h
       cases hq:decide (o.place=y2.to_) with
       | false=>rw [hq] at h; cases h
       | true=>
        rw [hq,decide_eq_true (show y2.to_=o.to_ from (of_decide_eq_true hq).symm.trans hp)] at h
        cases h
 ·by_cases h2:o.state=2
  ·refine .inr (.inl ⟨h2,?_⟩)
   rcases Classical.em (o.gone<o.way.length) with hlt | hlt
   ·exact hlt
   exfalso
   unfold ZC at h
   rw [decide_eq_false h1,decide_eq_true h2,decide_eq_false hlt] at h
   cases h0:decide (0<o.gone) with
   | false=>
    rw [h0] at h
    simp only [cond_false,cond_true] at h
    revert h; cases decide (o.place=⟨#[]⟩) <;> cases decide (o.ended=0) <;> (intro h; cases h)
   | true=>
    rw [h0] at h
    simp only [cond_false,cond_true] at h
    cases hg:getI o.way (w64 (o.gone-1)) with
    | none=>rw [hg] at h; cases h
    | some y1=>
     rw [hg] at h
     simp only [Option.bind_some] at h
     cases hl:getI n.legs y1.leg with
     | none=>rw [hl] at h; cases h
     | some y2=>
      rw [hl] at h
      simp only [Option.bind_some] at h
      cases he:Zq n y1 with
      | none=>rw [he] at h; cases h
      | some v=>
       rw [he] at h
       simp only [Option.bind_some] at h
       revert h; cases decide (now<v) <;> cases decide (o.place=⟨#[]⟩) <;> cases decide (o.ended=0) <;> (intro h; cases h)
  ·by_cases h3:o.state=3
   ·refine .inr (.inr ⟨h3,?_⟩)
    rcases Classical.em (o.gone=o.way.length∧0<o.gone) with hlt | hlt
    ·exact hlt
    exfalso
    unfold ZC at h
    rw [decide_eq_false h1,decide_eq_false h2,decide_eq_true h3] at h
    cases h0:decide (0<o.gone) with
    | false=>
     rw [h0] at h
     simp only [cond_false,cond_true] at h
     revert h; cases decide (o.place=o.to_) <;> cases decide (o.from_=o.to_) <;> cases decide (o.gone=(o.way.length:Int)) <;> (intro h; cases h)
    | true=>
     have hne:¬ o.gone=(o.way.length:Int):=fun e=>hlt ⟨e,of_decide_eq_true h0⟩
     rw [h0,decide_eq_false hne] at h
     simp only [cond_false,cond_true] at h
     cases hg:getI o.way (w64 (o.gone-1)) with
     | none=>rw [hg] at h; cases h
     | some y1=>
      rw [hg] at h
      simp only [Option.bind_some] at h
      cases hl:getI n.legs y1.leg with
      | none=>rw [hl] at h; cases h
      | some y2=>
       rw [hl] at h
       simp only [Option.bind_some] at h
       cases he:Zq n y1 with
       | none=>rw [he] at h; cases h
       | some v=>
        rw [he] at h
        simp only [Option.bind_some] at h
        revert h; cases decide (now<v) <;> cases decide (o.place=o.to_) <;> cases decide (y2.to_=o.to_) <;> (intro h; cases h)
   ·exfalso
    unfold ZC at h
    rw [decide_eq_false h1,decide_eq_false h2,decide_eq_false h3] at h
    cases h0:decide (0<o.gone) with
    | false=>rw [h0] at h; cases h
    | true=>
     rw [h0] at h
     simp only [cond_false,cond_true] at h
     cases hg:getI o.way (w64 (o.gone-1)) with
     | none=>rw [hg] at h; cases h
     | some y1=>
      rw [hg] at h
      simp only [Option.bind_some] at h
      cases hl:getI n.legs y1.leg with
      | none=>rw [hl] at h; cases h
      | some y2=>
       rw [hl] at h
       simp only [Option.bind_some] at h
       cases he:Zq n y1 with
       | none=>rw [he] at h; cases h
       | some v=>
        rw [he] at h
        simp only [Option.bind_some] at h
        revert h; cases decide (now<v) <;> (intro h; cases h)
structure Zn5 (w:YWorld) (i:Nat) (o:YOrder):Prop where
 gone:0≤o.gone∧o.gone≤o.way.length
 trip:∀ t∈o.way,ZbJ w.network t=true
 way:allI (wayC w ((i+1:Nat):Int) o) 0 o.way=true
 isWay:ZaN w.network o.way o.from_ (endV w.network o) (w64 (o.at_+1))=some true
 st:ZC w.network o w.now=some true
 cases:(o.state=1∧¬ (o.place=o.to_))∨(o.state=2∧o.gone<o.way.length)∨(o.state=3∧o.gone=o.way.length∧0<o.gone)
 open_:((o.way.drop (Zm o).toNat).any (Z2 w.closed))=false
 fromto:¬ o.from_=o.to_
 at_:0≤o.at_∧o.at_≤w.now
 due:0≤o.due∧o.due≤200000
theorem ZpI {w:YWorld} (hf:WFit w) {i:Nat} {o:YOrder} (hl:o.way.length≤1048576) (h:ZcY w i o=true):Zn5 w i o:=by
 unfold ZcY at h
 simp only [Bool.and_eq_true,Bool.not_eq_true',decide_eq_true_iff,decide_eq_false_iff_not] at h
 obtain ⟨⟨⟨⟨⟨⟨⟨⟨⟨⟨⟨h1,h2⟩,h3⟩,h4⟩,h5⟩,h6⟩,h7⟩,h8⟩,h9⟩,h10⟩,h11⟩,h12⟩:=h
 have ht:∀ t∈o.way,ZbJ w.network t=true:=by
  intro t ht
  obtain ⟨j,hj,rfl⟩:=List.getElem_of_mem ht
  have:=Zas.1 h9 j _ (List.getElem?_eq_getElem hj)
  unfold wayC at this
  simp only [Bool.and_eq_true] at this
  exact this.1.1
 obtain ⟨r,hr⟩:=ZiR hf.net hl o.from_ (endV w.network o) (w64 (o.at_+1))
 obtain ⟨b,hb⟩:=ZlI (n:=w.network) h8 hl (fun t htt=>by obtain ⟨y,hy,_⟩:=Zah hf.net (ht t htt); exact ⟨y,hy⟩) w.now
 rw [hr] at h10
 rw [hb] at h11
 simp only [Option.getD_some] at h10 h11
 subst h10 h11
 exact ⟨h8,ht,h9,hr,hb,ZoX hb,h12,h3,h6,h7⟩
section
variable {w:YWorld} (hf:WFit w) (hv:ZcB w=true)
include hf hv
theorem Zdk {i:Nat} {o:YOrder} (ho:w.orders[i]?=some o):Zn5 w i o:=ZpI hf (hf.way o (List.mem_of_getElem? ho)) (Zd8 hv ho)
theorem Zn0:Zi w.network=some true:=(Zav (ZkT hv)).1
theorem ZkS {o:YOrder} {i:Nat} (ho:w.orders[i]?=some o) {k:Int} (h0:0≤k) (h1:k<o.way.length):∃ t,getI o.way k=some t∧ZbJ w.network t=true:=by
 have hlt:k.toNat<o.way.length:=by omega
 exact ⟨o.way[k.toNat],by unfold getI; rw [if_pos h0]; exact List.getElem?_eq_getElem hlt,(Zdk hf hv ho).trip _ (List.getElem_mem hlt)⟩
theorem Zwz:ZbC w=(iterF (ZbT w) NN (0,(-1))).bind (fun o0=>some o0):=by
 have hnet:=Zn0 hf hv
 have hor:=hf.orders
 let F:Nat→Int→YOrder→Option (Int ⊕ Int):=fun _ a o=>
  if o.gone=o.way.length then some (.inl a) else (getI o.way o.gone).bind fun t=>
   let v:=if o.state=2 then Z7 w.network t else ZM w.network t
   some (.inl (if a<0∨v<a then v else a))
 have e1:iterF (ZaK w) NN ((-1),0)=runL F some 0 w.orders (-1):=by
  refine ZgI (A:=Int) (fun a i=>(a,i)) F some (fun a i o ho=>?_) (fun a=>?_) (by unfold NN; omega) (-1)
  ·have hlt:=(List.getElem?_eq_some_iff.1 ho).1
   have hg:getI w.orders (i:Int)=some o:=by rw [Zn]; exact ho
   have hi:w64 ((i:Int)+1)=((i+1:Nat):Int):=ZR hlt (by omega)
   have hok:=Zdk hf hv ho
   unfold ZaK
   simp only [decide_eq_true (show (i:Int)<w.orders.length by omega),cond_true,hg,Option.bind_some,hi,Zei,ZfG]
   show _=(F i a o).bind _
   simp only [F]
   by_cases hgl:o.gone<o.way.length
   ·obtain ⟨t,htg,htb⟩:=ZkS hf hv ho hok.gone.1 hgl
    obtain ⟨t1,t2,t3,t4,t5⟩:=ZI hf.net hnet htb
    rw [if_neg (show ¬ o.gone=(o.way.length:Int) by omega),htg]
    simp only [Option.bind_some,t1,t2,decide_eq_true hgl]
    rcases hok.cases with ⟨c1,_⟩ | ⟨c1,_⟩ | ⟨c1,c2,_⟩
    ·rw [c1]
     simp only [show decide ((1:Int)=2)=false from rfl,show decide ((1:Int)=1)=true from rfl,cond_true,cond_false,decide_eq_true t3,show ¬ ((1:Int)=2) by omega,if_false,selim]
     by_cases ha:a<0
     ·simp [ha]
     ·by_cases hb:ZM w.network t<a <;> simp [ha,hb]
    ·rw [c1]
     simp only [show decide ((2:Int)=2)=true from rfl,cond_true,decide_eq_true (show 0≤Z7 w.network t by omega),if_true,selim]
     by_cases ha:a<0
     ·simp [ha]
     ·by_cases hb:Z7 w.network t<a <;> simp [ha,hb]
    ·omega
   ·have hge:=hok.gone.2
    rw [if_pos (show o.gone=(o.way.length:Int) by omega),decide_eq_false hgl]
    rcases hok.cases with ⟨c1,_⟩ | ⟨c1,_⟩ | ⟨c1,c2,_⟩
    ·rw [c1]; rfl
    ·omega
    ·rw [c1]; rfl
  ·unfold ZaK
   simp
 have e2:iterF (ZbT w) NN (0,(-1))=runL F some 0 w.orders (-1):=by
  refine ZgI (A:=Int) (fun a i=>(i,a)) F some (fun a i o ho=>?_) (fun a=>?_) (by unfold NN; omega) (-1)
  ·have hlt:=(List.getElem?_eq_some_iff.1 ho).1
   have hg:getI w.orders (i:Int)=some o:=by rw [Zn]; exact ho
   have hi:w64 ((i:Int)+1)=((i+1:Nat):Int):=ZR hlt (by omega)
   have hok:=Zdk hf hv ho
   unfold ZbT
   simp only [decide_eq_true (show (i:Int)<w.orders.length by omega),cond_true,hg,Option.bind_some,hi]
   show _=(F i a o).bind _
   simp only [F]
   by_cases hgl:o.gone<o.way.length
   ·obtain ⟨t,htg,htb⟩:=ZkS hf hv ho hok.gone.1 hgl
    obtain ⟨t1,t2,t3,t4,t5⟩:=ZI hf.net hnet htb
    rw [if_neg (show ¬ o.gone=(o.way.length:Int) by omega),decide_eq_false (show ¬ o.gone=(o.way.length:Int) by omega),htg]
    simp only [Option.bind_some,t1,t2,cond_false]
    by_cases c1:o.state=2
    ·simp only [decide_eq_true c1,cond_true,if_pos c1,selim]
     by_cases ha:a<0
     ·simp [ha]
     ·by_cases hb:Z7 w.network t<a <;> simp [ha,hb]
    ·simp only [decide_eq_false c1,cond_false,if_neg c1,selim]
     by_cases ha:a<0
     ·simp [ha]
     ·by_cases hb:ZM w.network t<a <;> simp [ha,hb]
   ·have hge:=hok.gone.2
    rw [if_pos (show o.gone=(o.way.length:Int) by omega),decide_eq_true (show o.gone=(o.way.length:Int) by omega)]
    rfl
  ·unfold ZbT
   simp
 unfold ZbC
 rw [e1,e2]
end
theorem Zip {σ ο:Type} {body:σ→Option (σ ⊕ ο)} {P:ο→Prop} (h:∀ s o,body s=some (.inr o)→P o):∀ (N:Nat) (s:σ) (o:ο),iterF body N s=some o→P o
 | 0,s,o,he=>by simp [iterF] at he
 | N+1,s,o,he=>by
  simp only [iterF] at he
  cases hb:body s with
  | none=>rw [hb] at he; cases he
  | some x=>
   rw [hb] at he
   cases x with
   | inl s'=>exact Zip h N s' o he
   | inr r=>obtain rfl:r=o:=by simpa [selim] using he
            exact h s r hb
theorem Zsn {n:YNetwork} (hn:Zi n=some true):(0≤n.change∧n.change≤240)∧n.legs.length≤20∧n.off.length≤10:=by
 unfold Zi at hn
 have p0:∀ (N:Nat) (s:Int) (o:Unit ⊕ Bool),iterF (ZD n) N s=some o→o=.inl ()∨o=.inr false:=by
  refine Zip fun s o h=>?_
  unfold ZD at h
  cases hd:decide (s<(n.legs.length:Int)) with
  | false=>rw [hd] at h; cases h; exact .inl rfl
  | true=>
   rw [hd,cond_true] at h
   cases hg:getI n.legs s with
   | none=>rw [hg] at h; cases h
   | some y=>
    rw [hg,Option.bind_some] at h
    cases hl:Za3 y with
    | none=>rw [hl] at h; cases h
    | some b=>rw [hl,Option.bind_some] at h; cases b <;> cases h; exact .inr rfl
 have p1:∀ (N:Nat) (s:Int) (o:Unit ⊕ Bool),iterF (ZE n) N s=some o→o=.inl ()∨o=.inr false:=by
  refine Zip fun s o h=>?_
  unfold ZE at h
  cases hd:decide (s<(n.off.length:Int)) with
  | false=>rw [hd] at h; cases h; exact .inl rfl
  | true=>
   rw [hd,cond_true] at h
   cases hg:getI n.off s with
   | none=>rw [hg] at h; cases h
   | some y=>
    rw [hg,Option.bind_some,ZbH,Option.bind_some] at h
    cases hb:decide (0≤y) && decide (y≤60) with
    | false=>rw [hb] at h; cases h; exact .inr rfl
    | true=>
     rw [hb] at h
     cases hs:decide (0<s) with
     | false=>rw [hs] at h; cases h
     | true=>
      rw [hs] at h
      simp only [Bool.not_true,cond_false,cond_true] at h
      cases hg2:getI n.off (w64 (s-1)) with
      | none=>rw [hg2] at h; cases h
      | some z=>
       rw [hg2] at h
       simp only [Option.bind_some] at h
       cases hz:decide (y≤z) with
       | false=>rw [hz] at h; cases h
       | true=>rw [hz] at h; cases h; exact .inr rfl
 cases h0:iterF (ZD n) NN 0 with
 | none=>rw [h0] at hn; cases hn
 | some r0=>
 rw [h0] at hn
 rcases p0 _ _ _ h0 with rfl | rfl
 ·simp only [Option.bind_some,selim] at hn
  cases h1:iterF (ZE n) NN 0 with
  | none=>rw [h1] at hn; cases hn
  | some r1=>
  rw [h1] at hn
  rcases p1 _ _ _ h1 with rfl | rfl
  ·simp only [Option.bind_some,selim,ZbH] at hn
   cases h2:decide ((n.legs.length:Int)≤20) with
   | false=>rw [h2] at hn; cases hn
   | true=>
   cases h3:decide ((n.off.length:Int)≤10) with
   | false=>rw [h2,h3] at hn; cases hn
   | true=>
   rw [h2,h3] at hn
   simp only [cond_true] at hn
   have:=Option.some.inj hn
   have h2:=of_decide_eq_true h2
   have h3:=of_decide_eq_true h3
   exact ⟨by simpa only [Bool.and_eq_true,decide_eq_true_iff] using this,by omega,by omega⟩
  ·cases hn
 ·cases hn
theorem ZbB {n:YNetwork} (hn:Zi n=some true):0≤n.change∧n.change≤240:=(Zsn hn).1
def ZbL (n:YNetwork) (t:YTrip):ByteArray:=((getI n.legs t.leg).map (·.from_)).getD ⟨#[]⟩
def ZbG (n:YNetwork):ByteArray→Int→List YTrip→Prop
 | _,_,[]=>True
 | p,a,t::ts=>ZbJ n t=true∧ZbL n t=p∧a≤ZM n t∧ZbG n (ZL n t) (Z7 n t+n.change) ts
theorem Zio {n:YNetwork} (h:Z0 n) (hn:Zi n=some true) (t:YTrip):Zan n t=some (ZbJ n t):=by
 rw [← (Zgl h t).1,ZhF h hn,ZgB h]
theorem Zh6 {n:YNetwork} (hf:Z0 n) (hn:Zi n=some true) {way:List YTrip} (hl:way.length≤1048576) {a b:ByteArray} {t:Int} (h:ZaN n way a b t=some true):ZbG n a t way:=by
 obtain ⟨ch0,ch1⟩:=ZbB hn
 have hpl:=Zaz n
 have hll:=hf.legs
 let F:Nat→ByteArray × Int→YTrip→Option ((ByteArray × Int) ⊕ (ByteArray ⊕ Bool)):=fun _ p t=>
  some (if ZbJ n t=true∧ZbL n t=p.1∧p.2≤ZM n t then .inl (ZL n t,Z7 n t+n.change) else .inr (.inr false))
 have e1:iterF (Zao n way b) NN (a,t,0)=runL F (fun p=>some (.inl p.1)) 0 way (a,t):=by
  refine ZgI (A:=ByteArray × Int) (fun p i=>(p.1,p.2,i)) F (fun p=>some (.inl p.1)) (fun p i x hx=>?_) (fun p=>?_) (by unfold NN; omega) (a,t)
  ·have hlt:=(List.getElem?_eq_some_iff.1 hx).1
   have hg:getI way (i:Int)=some x:=by rw [Zn]; exact hx
   have hi:w64 ((i:Int)+1)=((i+1:Nat):Int):=ZR hlt (by omega)
   unfold Zao
   simp only [decide_eq_true (show (i:Int)<way.length by omega),cond_true,hg,Option.bind_some,hi,Zio hf hn,F]
   cases ht:ZbJ n x with
   | false=>simp [selim]
   | true=>
    obtain ⟨y,hy,_⟩:=Zah hf ht
    obtain ⟨t1,t2,t3,t4,t5⟩:=ZI hf hn ht
    have f1:ZbL n x=y.from_:=by unfold ZbL; rw [hy]; rfl
    have f2:ZL n x=y.to_:=by unfold ZL; rw [hy]; rfl
    have hw:w64 (Z7 n x+n.change)=Z7 n x+n.change:=Zo (by omega)
    simp only [hy,Option.bind_some,t1,t2,f1,f2,hw,Bool.not_true,cond_false,true_and]
    by_cases h1:y.from_=p.1
    ·by_cases h2:ZM n x<p.2
     ·rw [decide_eq_true h1,decide_eq_true h2,if_neg (show ¬ (y.from_=p.1∧p.2≤ZM n x) by omega)]; rfl
     ·rw [decide_eq_true h1,decide_eq_false h2,if_pos ⟨h1,by omega⟩]; rfl
    ·rw [decide_eq_false h1,if_neg (fun h=>h1 h.1)]; rfl
  ·unfold Zao
   simp
 have key:∀ (ts:List YTrip) (i:Nat) (p:ByteArray × Int) (r:ByteArray),runL F (fun p=>some (.inl p.1)) i ts p=some (.inl r)→ZbG n p.1 p.2 ts:=by
  intro ts
  induction ts with
  | nil=>intro i p r h; trivial
  | cons x ts ih=>
   intro i p r h
   simp only [runL,F] at h
   by_cases hc:ZbJ n x=true∧ZbL n x=p.1∧p.2≤ZM n x
   ·rw [if_pos hc] at h
    exact ⟨hc.1,hc.2.1,hc.2.2,ih (i+1) (ZL n x,Z7 n x+n.change) r h⟩
   ·rw [if_neg hc] at h; cases h
 unfold ZaN at h
 rw [(Zac hf).2,hn] at h
 simp only [Option.bind_some,Zft (show (Zb n).length≤4194304 by omega),e1] at h
 cases h1:decide (idxV (Zb n) a<0) with
 | true=>rw [h1] at h; cases h
 | false=>
 cases h2:decide (idxV (Zb n) b<0) with
 | true=>rw [h1,h2] at h; cases h
 | false=>
 rw [h1,h2] at h
 simp only [Bool.not_true,cond_false] at h
 cases hr:runL F (fun p=>some (.inl p.1)) 0 way (a,t) with
 | none=>rw [hr] at h; cases h
 | some r=>
  cases r with
  | inl r=>exact key way 0 (a,t) r hr
  | inr v=>
   exfalso
   have:∀ (ts:List YTrip) (i:Nat) (p:ByteArray × Int) (v:Bool),runL F (fun p=>some (.inl p.1)) i ts p=some (.inr v)→v=false:=by
    intro ts
    induction ts with
    | nil=>intro i p v h; cases h
    | cons x ts ih=>
     intro i p v h
     simp only [runL,F] at h
     by_cases hc:ZbJ n x=true∧ZbL n x=p.1∧p.2≤ZM n x
     ·rw [if_pos hc] at h; exact ih _ _ _ h
     ·rw [if_neg hc] at h; cases h; rfl
   have hv:=this _ _ _ _ hr
   subst hv
   rw [hr] at h
   cases h
theorem ZlW {n:YNetwork}:∀ {ts:List YTrip} {p:ByteArray} {a:Int} {i:Nat} {t:YTrip},ZbG n p a ts→ts[i]?=some t→ZbJ n t=true∧∀ t',ts[i+1]?=some t'→Z7 n t+n.change≤ZM n t'∧ZbL n t'=ZL n t
 | [],_,_,_,_,_,h=>by simp at h
 | x::ts,p,a,0,t,hc,h=>by
  obtain rfl:x=t:=by simpa using h
  refine ⟨hc.1,fun t' h'=>?_⟩
  cases ts with
  | nil=>simp at h'
  | cons y ts=>obtain rfl:y=t':=by simpa using h'
               exact ⟨hc.2.2.2.2.2.1,hc.2.2.2.2.1⟩
 | x::ts,p,a,i+1,t,hc,h=>by
  have h':ts[i]?=some t:=by simpa using h
  have:=ZlW hc.2.2.2 h'
  simpa using this
def ZfY (n:YNetwork) (o:YOrder):ByteArray:=if 0<o.gone then ((o.way[(o.gone-1).toNat]?).map (ZL n)).getD ⟨#[]⟩ else o.from_
structure Zfi (n:YNetwork) (o:YOrder) (now:Int):Prop where
 past:∀ t,0<o.gone→o.way[(o.gone-1).toNat]?=some t→Z7 n t≤now
 cases:(o.state=1∧o.place=ZfY n o∧¬ ZfY n o=o.to_∧o.ended=0∧∀ t,o.way[o.gone.toNat]?=some t→now<ZM n t)∨
  (o.state=2∧o.place=⟨#[]⟩∧o.ended=0∧∃ t,o.way[o.gone.toNat]?=some t∧ZM n t≤now∧now<Z7 n t)∨
  (o.state=3∧o.place=o.to_∧ZfY n o=o.to_∧o.gone=o.way.length∧0<o.gone∧∀ t,o.way[(o.gone-1).toNat]?=some t→o.ended=Z7 n t)
theorem Zih {c:Prop} [Decidable c] {a b:Option Bool}:cond (decide c) a b=some true↔(c∧a=some true)∨(¬ c∧b=some true):=by
 by_cases h:c <;> simp [h]
theorem ZhB {c:Prop} [Decidable c] {a b:Option Bool}:cond (!decide c) a b=some true↔(¬ c∧a=some true)∨(c∧b=some true):=by
 by_cases h:c <;> simp [h]
theorem Zhu {n:YNetwork} (hf:Z0 n) (hn:Zi n=some true) {o:YOrder} (hg:0≤o.gone∧o.gone≤o.way.length) (hl:o.way.length≤1048576) (ht:∀ t∈o.way,ZbJ n t=true) (now:Int):ZC n o now=some true↔Zfi n o now:=by
 have hw1:w64 (o.gone-1)=o.gone-1:=Zo (by omega)
 have nx:(∃ t,o.gone<o.way.length∧getI o.way o.gone=some t∧o.way[o.gone.toNat]?=some t∧Zp n t=some (ZM n t)∧Zq n t=some (Z7 n t))∨(o.gone=o.way.length∧o.way[o.gone.toNat]?=none):=by
  by_cases h:o.gone<o.way.length
  ·have hlt:o.gone.toNat<o.way.length:=by omega
   obtain ⟨t1,t2,_⟩:=ZI hf hn (ht _ (List.getElem_mem hlt))
   exact .inl ⟨o.way[o.gone.toNat],h,by unfold getI; rw [if_pos hg.1]; exact List.getElem?_eq_getElem hlt,List.getElem?_eq_getElem hlt,t1,t2⟩
  ·exact .inr ⟨by omega,List.getElem?_eq_none (by omega)⟩
 unfold ZC
 rw [hw1]
 by_cases h0:0<o.gone
 ·have hlt:(o.gone-1).toNat<o.way.length:=by omega
  obtain ⟨p,hp,hp1⟩:∃ p,getI o.way (o.gone-1)=some p∧o.way[(o.gone-1).toNat]?=some p:=⟨o.way[(o.gone-1).toNat],by unfold getI; rw [if_pos (by omega)]; exact List.getElem?_eq_getElem hlt,List.getElem?_eq_getElem hlt⟩
  have hpt:=ht p (List.mem_of_getElem? hp1)
  obtain ⟨y,hy,_⟩:=Zah hf hpt
  obtain ⟨t1,t2,t3,t4,t5⟩:=ZI hf hn hpt
  have hh:ZfY n o=y.to_:=by unfold ZfY; rw [if_pos h0,hp1]; simp [ZL,hy]
  rcases nx with ⟨t,n1,n2,n3,n4,n5⟩ | ⟨n1,n3⟩
  ·have ng:¬ o.gone=o.way.length:=by omega
   simp only [decide_eq_true h0,cond_true,hp,hy,t2,n2,n4,n5,Option.bind_some,Zih,ZhB,Option.some.injEq,decide_eq_true_iff]
   constructor
   ·intro h
    refine ⟨fun q _ hq=>?_,?_⟩
    ·rw [hp1] at hq; obtain rfl:=Option.some.inj hq
     rcases h with ⟨_,h⟩ | ⟨h,_⟩
     ·simp at h
     ·omega
    ·rw [hh]; simp only [n3,hp1,Option.some.injEq,forall_eq',exists_eq_left']
     by_cases s1:o.state=1 <;> by_cases s2:o.state=2 <;> by_cases s3:o.state=3 <;> simp_all
   ·rintro ⟨k1,k2⟩
    have k1':=k1 p h0 hp1
    rw [hh] at k2; simp only [n3,hp1,Option.some.injEq,forall_eq',exists_eq_left'] at k2
    have:¬ now<Z7 n p:=by omega
    rcases k2 with k | k | k <;> simp_all
  ·simp only [decide_eq_true h0,cond_true,hp,hy,t2,Option.bind_some,Zih,ZhB,Option.some.injEq,decide_eq_true_iff]
   have ng:¬ o.gone<o.way.length:=by omega
   constructor
   ·intro h
    refine ⟨fun q _ hq=>?_,?_⟩
    ·rw [hp1] at hq; obtain rfl:=Option.some.inj hq
     rcases h with ⟨_,h⟩ | ⟨h,_⟩
     ·simp at h
     ·omega
    ·rw [hh]; simp only [n3,hp1,Option.some.injEq,forall_eq',exists_eq_left',reduceCtorEq,false_and,exists_false,false_implies,implies_true]
     by_cases s1:o.state=1 <;> by_cases s2:o.state=2 <;> by_cases s3:o.state=3 <;> simp_all
   ·rintro ⟨k1,k2⟩
    have k1':=k1 p h0 hp1
    rw [hh] at k2; simp only [n3,hp1,Option.some.injEq,forall_eq',exists_eq_left',reduceCtorEq,false_and,exists_false,false_implies,implies_true] at k2
    have:¬ now<Z7 n p:=by omega
    rcases k2 with k | k | k <;> simp_all
 ·have hh:ZfY n o=o.from_:=by unfold ZfY; rw [if_neg h0]
  rcases nx with ⟨t,n1,n2,n3,n4,n5⟩ | ⟨n1,n3⟩
  ·have ng:¬ o.gone=o.way.length:=by omega
   simp only [decide_eq_false h0,cond_false,n2,n4,n5,Option.bind_some,Zih,ZhB,Option.some.injEq,decide_eq_true_iff]
   constructor
   ·intro h
    refine ⟨fun q hq=>absurd hq h0,?_⟩
    rw [hh]; simp only [n3,Option.some.injEq,forall_eq',exists_eq_left']
    by_cases s1:o.state=1 <;> by_cases s2:o.state=2 <;> by_cases s3:o.state=3 <;> simp_all
   ·rintro ⟨k1,k2⟩
    rw [hh] at k2; simp only [n3,Option.some.injEq,forall_eq',exists_eq_left'] at k2
    rcases k2 with k | k | k <;> simp_all
  ·have ng:¬ o.gone<o.way.length:=by omega
   simp only [decide_eq_false h0,cond_false,Option.bind_some,Zih,ZhB,Option.some.injEq,decide_eq_true_iff]
   constructor
   ·intro h
    refine ⟨fun q hq=>absurd hq h0,?_⟩
    rw [hh]; simp only [n3,reduceCtorEq,false_and,exists_false,false_implies,implies_true]
    by_cases s1:o.state=1 <;> by_cases s2:o.state=2 <;> by_cases s3:o.state=3 <;> simp_all
   ·rintro ⟨k1,k2⟩
    rw [hh] at k2; simp only [n3,reduceCtorEq,false_and,exists_false,false_implies,implies_true] at k2
    rcases k2 with k | k | k
    ·simp_all
    ·simp_all
    ·exact absurd k.2.2.2.2.1 h0
def Zbj (n:YNetwork) (o:YOrder):Option Int:=(o.way[o.gone.toNat]?).map fun t=>if o.state=2 then Z7 n t else ZM n t
def arr1 (n:YNetwork) (at_:Int) (o:YOrder) (t:YTrip):YOrder:=
 if ZL n t=o.to_ then { o with gone:=o.gone+1,state:=3,place:=ZL n t,ended:=at_ } else { o with gone:=o.gone+1,state:=1,place:=ZL n t }
def ZS (n:YNetwork) (at_:Int) (o:YOrder):YOrder:=match o.way[o.gone.toNat]? with
 | some t=>if o.state=2∧Z7 n t=at_ then arr1 n at_ o t else o
 | none=>o
def ZfS (n:YNetwork) (at_:Int) (o:YOrder):YOrder:=match o.way[o.gone.toNat]? with
 | some t=>if o.state=1∧ZM n t=at_ then { o with state:=2,place:=⟨#[]⟩ } else o
 | none=>o
structure ZiK (n:YNetwork) (o:YOrder):Prop where
 gone:0≤o.gone∧o.gone≤o.way.length
 trip:∀ t∈o.way,0≤ZM n t∧ZM n t<Z7 n t∧Z7 n t≤100000
 next:∀ (i:Nat) t t',o.way[i]?=some t→o.way[i+1]?=some t'→Z7 n t≤ZM n t'
 last:∀ (i:Nat) t,o.way[i]?=some t→ZL n t=o.to_→i+1=o.way.length
structure Zgg (o o':YOrder):Prop where
 from_:o'.from_=o.from_
 to_:o'.to_=o.to_
 service:o'.service=o.service
 weight:o'.weight=o.weight
 at_:o'.at_=o.at_
 due:o'.due=o.due
 way:o'.way=o.way
theorem Zgg.refl (o:YOrder):Zgg o o:=⟨rfl,rfl,rfl,rfl,rfl,rfl,rfl⟩
theorem Zgg.trans {a b c:YOrder} (h:Zgg a b) (k:Zgg b c):Zgg a c:=⟨k.1.trans h.1,k.2.trans h.2,k.3.trans h.3,k.4.trans h.4,k.5.trans h.5,k.6.trans h.6,k.7.trans h.7⟩
theorem ZhZ (n:YNetwork) (at_:Int) (o:YOrder):Zgg o (ZS n at_ o):=by
 unfold ZS arr1
 split
 ·split
  ·split <;> exact ⟨rfl,rfl,rfl,rfl,rfl,rfl,rfl⟩
  ·exact .refl o
 ·exact .refl o
theorem Zsi (n:YNetwork) (at_:Int) (o:YOrder):Zgg o (ZfS n at_ o):=by
 unfold ZfS
 split
 ·split
  ·exact ⟨rfl,rfl,rfl,rfl,rfl,rfl,rfl⟩
  ·exact .refl o
 ·exact .refl o
def Zf2 (n:YNetwork) (at_:Int) (o:YOrder):YOrder:=ZfS n at_ (ZS n at_ o)
theorem Zhv (n:YNetwork) (at_:Int) (o:YOrder):Zgg o (Zf2 n at_ o):=(ZhZ n at_ o).trans (Zsi n at_ _)
theorem ZiK.same {n:YNetwork} {o o':YOrder} (h:ZiK n o) (k:Zgg o o') (hg:0≤o'.gone∧o'.gone≤o.way.length):ZiK n o':=
 ⟨by rw [k.way]; exact hg,by rw [k.way]; exact h.trip,by rw [k.way]; exact h.next,by rw [k.way,k.to_]; exact h.last⟩
def Zeu (o:YOrder):Nat:=2*(o.way.length-o.gone.toNat)-(if o.state=2 then 1 else 0)
structure Zo2 (n:YNetwork) (o:YOrder) (at_:Int):Prop where
 ok:Zfi n o at_
 gone:0≤o.gone∧o.gone≤o.way.length
 next:∀ e,Zbj n o=some e→at_<e
theorem Zgs {n:YNetwork} {o:YOrder} {at_:Int} (h:Zfi n o at_) (hg:0≤o.gone∧o.gone≤o.way.length):Zo2 n o at_:=by
 refine ⟨h,hg,fun e he=>?_⟩
 unfold Zbj at he
 rcases h.cases with ⟨c,_,_,_,k⟩ | ⟨c,_,_,t,k1,_,k3⟩ | ⟨c,_,_,k,_,_⟩
 ·cases ht:o.way[o.gone.toNat]? with
  | none=>rw [ht] at he; cases he
  | some t=>rw [ht] at he; simp [c] at he; subst he; exact k t ht
 ·rw [k1] at he; simp [c] at he; subst he; exact k3
 ·rw [List.getElem?_eq_none (by omega)] at he; cases he
theorem Zsh {n:YNetwork} {o:YOrder} {at_:Int} (hw:ZiK n o) (hp:∀ t,0<o.gone→o.way[(o.gone-1).toNat]?=some t→Z7 n t≤at_)
 (hs:o.state=1) (h1:o.place=ZfY n o) (h2:¬ ZfY n o=o.to_) (h3:o.ended=0) (h4:∀ t,o.way[o.gone.toNat]?=some t→at_≤ZM n t):
 Zo2 n (ZfS n at_ o) at_∧Zeu (ZfS n at_ o)≤Zeu o∧((∃ t,o.way[o.gone.toNat]?=some t∧ZM n t=at_)→Zeu (ZfS n at_ o)<Zeu o):=by
 unfold ZfS
 cases ht:o.way[o.gone.toNat]? with
 | none=>
  refine ⟨Zgs ⟨hp,.inl ⟨hs,h1,h2,h3,fun t h=>?_⟩⟩ hw.gone,Nat.le_refl _,fun ⟨t,h,_⟩=>?_⟩
  ·rw [ht] at h; cases h
  ·cases h
 | some t=>
  have hlt:=(List.getElem?_eq_some_iff.1 ht).1
  obtain ⟨a1,a2,a3⟩:=hw.trip t (List.mem_of_getElem? ht)
  have h4':=h4 t ht
  by_cases hst:ZM n t=at_
  ·simp only [hs,hst,and_self,if_true]
   refine ⟨Zgs ⟨fun q hq=>?_,.inr (.inl ⟨rfl,rfl,h3,t,ht,by omega,by omega⟩)⟩ hw.gone,?_,fun _=>?_⟩
   ·exact hp q hq
   ·unfold Zeu; simp only [hs]; simp
   ·unfold Zeu; simp only [hs]; simp; omega
  ·have hng:¬ (o.state=1∧ZM n t=at_):=fun h=>hst h.2
   simp only [if_neg hng]
   refine ⟨Zgs ⟨hp,.inl ⟨hs,h1,h2,h3,fun q hq=>?_⟩⟩ hw.gone,Nat.le_refl _,fun ⟨q,hq,hq2⟩=>?_⟩
   ·rw [ht] at hq; obtain rfl:=Option.some.inj hq; omega
   ·obtain rfl:=Option.some.inj hq; exact absurd hq2 hst
theorem ZiT {n:YNetwork} {o:YOrder} {at_:Int} (hs:¬ o.state=1):ZfS n at_ o=o:=by
 unfold ZfS
 cases o.way[o.gone.toNat]? with
 | none=>rfl
 | some t=>simp [hs]
theorem Zts {n:YNetwork} {o:YOrder} {now at_:Int} (hw:ZiK n o) (h:Zfi n o now) (hn:now≤at_) (he:∀ e,Zbj n o=some e→at_≤e):
 Zo2 n (Zf2 n at_ o) at_∧ZiK n (Zf2 n at_ o)∧Zeu (Zf2 n at_ o)≤Zeu o∧(Zbj n o=some at_→Zeu (Zf2 n at_ o)<Zeu o):=by
 have hg:=hw.gone
 have main:Zo2 n (Zf2 n at_ o) at_∧Zeu (Zf2 n at_ o)≤Zeu o∧(Zbj n o=some at_→Zeu (Zf2 n at_ o)<Zeu o):=by
  unfold Zf2
  rcases h.cases with ⟨c1,c2,c3,c4,c5⟩ | ⟨c1,c2,c3,t,c4,c5,c6⟩ | ⟨c1,c2,c3,c4,c5,c6⟩
  ·have e1:ZS n at_ o=o:=by
    unfold ZS
    cases o.way[o.gone.toNat]? with
    | none=>rfl
    | some t=>simp [c1]
   rw [e1]
   have h4:∀ t,o.way[o.gone.toNat]?=some t→at_≤ZM n t:=fun t ht=>he _ (by unfold Zbj; rw [ht]; simp [c1])
   obtain ⟨a,b,c⟩:=Zsh hw (fun t h1 h2=>by have:=h.past t h1 h2; omega) c1 c2 c3 c4 h4
   refine ⟨a,b,fun hev=>c ?_⟩
   unfold Zbj at hev
   cases ht:o.way[o.gone.toNat]? with
   | none=>rw [ht] at hev; cases hev
   | some t=>rw [ht] at hev; simp [c1] at hev; exact ⟨t,rfl,hev⟩
  ·have hlt:=(List.getElem?_eq_some_iff.1 c4).1
   obtain ⟨a1,a2,a3⟩:=hw.trip t (List.mem_of_getElem? c4)
   have he':=he (Z7 n t) (by unfold Zbj; rw [c4]; simp [c1])
   by_cases hx:Z7 n t=at_
   ·have e1:ZS n at_ o=arr1 n at_ o t:=by unfold ZS; rw [c4]; simp only [c1,hx,and_self,if_true]
    rw [e1]
    have hgn:(o.gone+1-1).toNat=o.gone.toNat:=by omega
    have hgs:(o.gone+1).toNat=o.gone.toNat+1:=by omega
    unfold arr1
    by_cases hd:ZL n t=o.to_
    ·have hlen:=hw.last _ t c4 hd
     rw [if_pos hd,ZiT (by simp)]
     have hh:ZfY n { o with gone:=o.gone+1,state:=3,place:=ZL n t,ended:=at_ }=ZL n t:=by
      unfold ZfY; simp only [hgn,c4]; rw [if_pos (by omega)]; rfl
     refine ⟨Zgs ⟨fun q _ hq=>?_,.inr (.inr ⟨rfl,hd,hh.trans hd,by simp only; omega,by simp only; omega,fun q hq=>?_⟩)⟩ (by simp only; omega),?_,fun _=>?_⟩
     ·simp only [hgn,c4,Option.some.injEq] at hq; subst hq; omega
     ·simp only [hgn,c4,Option.some.injEq] at hq; subst hq; exact hx.symm
     ·unfold Zeu; simp only [hgs,c1]; simp; omega
     ·unfold Zeu; simp only [hgs,c1]; simp; omega
    ·rw [if_neg hd]
     have hh:ZfY n { o with gone:=o.gone+1,state:=1,place:=ZL n t }=ZL n t:=by
      unfold ZfY; simp only [hgn,c4]; rw [if_pos (by omega)]; rfl
     have hw':ZiK n { o with gone:=o.gone+1,state:=1,place:=ZL n t }:=hw.same ⟨rfl,rfl,rfl,rfl,rfl,rfl,rfl⟩ (by simp only; omega)
     obtain ⟨a,b,c⟩:=Zsh (at_:=at_) hw' (fun q _ hq=>by simp only [hgn,c4,Option.some.injEq] at hq; subst hq; omega) rfl hh.symm (by rw [hh]; exact hd) c3 (fun q hq=>by
      simp only [hgs] at hq
      have:=hw.next _ t q c4 hq
      omega)
     have hb:Zeu { o with gone:=o.gone+1,state:=1,place:=ZL n t } < Zeu o:=by unfold Zeu; simp only [hgs,c1]; simp; omega
     exact ⟨a,by omega,fun _=>by omega⟩
   ·have e1:ZS n at_ o=o:=by unfold ZS; rw [c4]; simp only [hx,and_false,if_false]
    rw [e1,ZiT (by omega)]
    refine ⟨Zgs ⟨fun q h1 h2=>by have:=h.past q h1 h2; omega,.inr (.inl ⟨c1,c2,c3,t,c4,by omega,by omega⟩)⟩ hg,Nat.le_refl _,fun hev=>?_⟩
    unfold Zbj at hev
    rw [c4] at hev; simp [c1] at hev; exact absurd hev hx
  ·have hnone:o.way[o.gone.toNat]?=none:=List.getElem?_eq_none (by omega)
   have e1:ZS n at_ o=o:=by unfold ZS; rw [hnone]
   rw [e1,ZiT (by omega)]
   refine ⟨Zgs ⟨fun q h1 h2=>by have:=h.past q h1 h2; omega,.inr (.inr ⟨c1,c2,c3,c4,c5,c6⟩)⟩ hg,Nat.le_refl _,fun hev=>?_⟩
   unfold Zbj at hev
   rw [hnone] at hev; cases hev
 have hs:=Zhv n at_ o
 exact ⟨main.1,hw.same hs (by have:=main.1.gone; rw [hs.way] at this; exact this),main.2⟩
theorem ZtC {n:YNetwork} {o:YOrder} (hw:ZiK n o) {now:Int} (h:Zfi n o now) (h0:Zeu o=0):Zbj n o=none:=by
 have hg:=hw.gone
 unfold Zbj
 rcases h.cases with ⟨c,_⟩ | ⟨c,_,_,t,k1,_⟩ | ⟨c,_,_,k,_⟩
 ·unfold Zeu at h0; rw [if_neg (by omega)] at h0
  rw [List.getElem?_eq_none (by omega)]; rfl
 ·have hlt:=(List.getElem?_eq_some_iff.1 k1).1
  unfold Zeu at h0; rw [if_pos c] at h0; omega
 ·rw [List.getElem?_eq_none (by omega)]; rfl
theorem ZgS {w:YWorld} (hf:WFit w) (hv:ZcB w=true) {s:YScan} (hs:s∈w.scans):ZB w.network s=some true∧s.at_≤w.now:=by
 unfold ZcB at hv
 simp only [Bool.and_eq_true] at hv
 obtain ⟨j,hj,rfl⟩:=List.getElem_of_mem hs
 have:=Zas.1 hv.1.1.2 j _ (List.getElem?_eq_getElem hj)
 unfold Zk0 at this
 simp only [Bool.and_eq_true,Bool.not_eq_true',decide_eq_false_iff_not] at this
 obtain ⟨b,hb⟩:=ZgZ hf.net w.scans[j]
 rw [hb] at this ⊢
 simp only [Option.getD_some] at this
 exact ⟨by rw [this.1],by omega⟩
def ZeI (skip:List Int) (p:List YScan × Int) (s:YScan):List YScan × Int:=
 let m:=if p.2<1000000000 then p.2+1 else p.2
 (if (skip.any fun y=>decide (y=m))=false∧p.1.length<200 then p.1++[s] else p.1,m)
def Zca (n:YNetwork) (at_:Int) (i:Nat) (o:YOrder):List YScan:=match o.way[o.gone.toNat]? with
 | some t=>if o.state=2∧Z7 n t=at_ then ⟨((i+1:Nat):Int),at_,2,⟨#[]⟩,t⟩::(if ZL n t=o.to_ then [⟨((i+1:Nat):Int),at_,4,ZL n t,⟨0,0⟩⟩] else []) else []
 | none=>[]
def Zfu (n:YNetwork) (at_:Int) (i:Nat) (o:YOrder):List YScan:=match o.way[o.gone.toNat]? with
 | some t=>if o.state=1∧ZM n t=at_ then [⟨((i+1:Nat):Int),at_,3,⟨#[]⟩,t⟩] else []
 | none=>[]
def Ze0 (f:Nat→YOrder→List YScan):Nat→List YOrder→List YScan
 | _,[]=>[]
 | i,o::os=>f i o++Ze0 f (i+1) os
theorem ZfK {f:Nat→YOrder→List YScan} {s:YScan}:∀ {os:List YOrder} {i:Nat},s∈Ze0 f i os→∃ j o,os[j]?=some o∧s∈f (i+j) o
 | [],_,h=>by simp [Ze0] at h
 | o::os,i,h=>by
  simp only [Ze0,List.mem_append] at h
  rcases h with h | h
  ·exact ⟨0,o,rfl,h⟩
  ·obtain ⟨j,o',h1,h2⟩:=ZfK h
   exact ⟨j+1,o',by simpa using h1,by rwa [show i+(j+1)=i+1+j by omega]⟩
def ZiE (w:YWorld) (at_:Int):List YScan:=Ze0 (Zca w.network at_) 0 w.orders++Ze0 (Zfu w.network at_) 0 (w.orders.map (ZS w.network at_))
def ZbF (w:YWorld) (at_:Int):YWorld:=
 { w with orders:=w.orders.map (Zf2 w.network at_),now:=at_,scans:=((ZiE w at_).foldl (ZeI w.skip) (w.scans,w.made)).1,made:=((ZiE w at_).foldl (ZeI w.skip) (w.scans,w.made)).2 }
structure WOk (w:YWorld):Prop where
 fit:WFit w
 ok:ZcB w=true
theorem WOk.net {w:YWorld} (h:WOk w):Zi w.network=some true:=Zn0 h.fit h.ok
theorem WOk.way {w:YWorld} (h:WOk w) {i:Nat} {o:YOrder} (ho:w.orders[i]?=some o):ZiK w.network o:=by
 have hok:=Zdk h.fit h.ok ho
 have hl:=h.fit.way o (List.mem_of_getElem? ho)
 have hch:=Zh6 h.fit.net h.net hl hok.isWay
 refine ⟨hok.gone,fun t ht=>?_,fun i t t' h1 h2=>?_,fun i t h1 h2=>?_⟩
 ·obtain ⟨_,_,a,b,c⟩:=ZI h.fit.net h.net (hok.trip t ht)
  exact ⟨a,b,c⟩
 ·have:=((ZlW hch h1).2 t' h2).1
  have:=(ZbB h.net).1
  omega
 ·have hw:=Zas.1 hok.way i t h1
  unfold wayC at hw
  simp only [Nat.zero_add,Bool.and_eq_true,Bool.not_eq_true',Bool.and_eq_false_imp,decide_eq_true_iff,decide_eq_false_iff_not] at hw
  have h3:=hw.2 h2
  have:=(List.getElem?_eq_some_iff.1 h1).1
  omega
theorem WOk.state {w:YWorld} (h:WOk w) {i:Nat} {o:YOrder} (ho:w.orders[i]?=some o):Zfi w.network o w.now:=by
 have hok:=Zdk h.fit h.ok ho
 exact (Zhu h.fit.net h.net hok.gone (h.fit.way o (List.mem_of_getElem? ho)) hok.trip _).1 hok.st
theorem WOk.parts {w:YWorld} (h:WOk w):(0≤w.now∧w.now≤100000)∧w.orders.length≤30∧w.closed.length≤20∧w.scans.length≤200∧w.skip.length≤50∧(w.scans.length≤w.made∧w.made≤1000000000)∧w.bookings.length≤120:=by
 have hb:=Zav (ZkT h.ok)
 have hv:=h.ok
 unfold ZcB at hv
 simp only [Bool.and_eq_true,Bool.not_eq_true',decide_eq_true_iff,decide_eq_false_iff_not] at hv
 obtain ⟨⟨⟨⟨⟨⟨⟨⟨⟨⟨h1,h2⟩,h3⟩,h4⟩,h5⟩,h6⟩,h7⟩,h8⟩,h9⟩,h10⟩,h11⟩:=hv
 exact ⟨h2,by omega,by omega,by omega,by omega,h7,hb.2⟩
structure ZlM (n:YNetwork) (at_:Int) (p:List YScan × Int):Prop where
 good:∀ s∈p.1,ZB n s=some true∧s.at_≤at_
 len:p.1.length≤200
 made:p.1.length≤p.2∧p.2≤1000000000
theorem Znc {n:YNetwork} {at_:Int} {skip:List Int} {p:List YScan × Int} {s:YScan} (h:ZlM n at_ p) (hs:ZB n s=some true∧s.at_≤at_):ZlM n at_ (ZeI skip p s):=by
 obtain ⟨h1,h2,h3⟩:=h
 unfold ZeI
 by_cases hm:p.2<1000000000
 ·simp only [if_pos hm]
  split
  ·rename_i hc
   exact ⟨fun x hx=>by rcases List.mem_append.1 hx with hx | hx
                       ·exact h1 x hx
                       ·obtain rfl:x=s:=by simpa using hx
                        exact hs,by simp; omega,by simp; omega⟩
  ·exact ⟨h1,h2,by simp only; omega⟩
 ·simp only [if_neg hm]
  split
  ·rename_i hc
   exact ⟨fun x hx=>by rcases List.mem_append.1 hx with hx | hx
                       ·exact h1 x hx
                       ·obtain rfl:x=s:=by simpa using hx
                        exact hs,by simp; omega,by simp; omega⟩
  ·exact ⟨h1,h2,by simp only; omega⟩
theorem Zlp {n:YNetwork} {at_:Int} {skip:List Int}:∀ (l:List YScan) (p:List YScan × Int),ZlM n at_ p→(∀ s∈l,ZB n s=some true∧s.at_≤at_)→ZlM n at_ (l.foldl (ZeI skip) p)
 | [],p,h,_=>h
 | s::l,p,h,hl=>Zlp l _ (Znc h (hl s List.mem_cons_self)) fun x hx=>hl x (List.mem_cons_of_mem _ hx)
theorem ZmE {n:YNetwork} {at_:Int} {o:YOrder}:Zm o≤Zm (ZS n at_ o):=by
 unfold ZS
 split
 ·split
  ·rename_i t ht hc
   unfold arr1
   split <;> (unfold Zm; simp [hc.1])
  ·exact Int.le_refl _
 ·exact Int.le_refl _
theorem Zqr {n:YNetwork} {at_:Int} {o:YOrder}:Zm o≤Zm (ZfS n at_ o):=by
 unfold ZfS
 split
 ·split
  ·rename_i t ht hc
   unfold Zm
   simp [hc.1]
   omega
  ·exact Int.le_refl _
 ·exact Int.le_refl _
theorem Zq3 {n:YNetwork} {at_:Int} {o:YOrder}:Zm o≤Zm (Zf2 n at_ o):=Int.le_trans ZmE Zqr
theorem Zuc {α:Type} {l:List α} {p:α→Bool} {a b:Nat} (h:a≤b) (hk:(l.drop a).any p=false):(l.drop b).any p=false:=by
 obtain ⟨c,rfl⟩:∃ c,b=a+c:=⟨b-a,by omega⟩
 rw [← List.drop_drop]
 rw [List.any_eq_false] at hk ⊢
 exact fun x hx=>hk x (List.mem_of_mem_drop hx)
section
variable {w:YWorld} (h:WOk w) {at_:Int} (hn:w.now≤at_) (hm:at_≤100000) (he:∀ o∈w.orders,∀ e,Zbj w.network o=some e→at_≤e)
include h hn hm he
theorem Zi2 {th:Int} {k:Int} {p:ByteArray} {t:YTrip} (h1:1≤th∧th≤9999)
 (hk:(k=2∧p=⟨#[]⟩∧ZbJ w.network t=true∧Z7 w.network t≤at_)∨(k=3∧p=⟨#[]⟩∧ZbJ w.network t=true∧at_≤ZM w.network t)∨(k=4∧¬ idxV (Zb w.network) p<0∧t=⟨0,0⟩)):
 ZB w.network ⟨th,at_,k,p,t⟩=some true:=by
 have hnow:=h.parts.1
 have hpl:=Zaz w.network
 have hll:=h.fit.net.legs
 unfold ZB
 rw [h.net]
 simp only [Option.bind_some,ZbH,Bool.not_true,cond_false,decide_eq_true h1.1,decide_eq_true h1.2,decide_eq_true (show 0≤at_ by omega),decide_eq_true hm,Bool.and_self,(Zac h.fit.net).2,Zft (show (Zb w.network).length≤4194304 by omega),Zio h.fit.net h.net]
 rcases hk with ⟨rfl,rfl,h2,h3⟩ | ⟨rfl,rfl,h2,h3⟩ | ⟨rfl,h2,rfl⟩
 ·obtain ⟨a1,a2,_⟩:=ZI h.fit.net h.net h2
  simp [h2,a1,a2,h3]
 ·obtain ⟨a1,a2,_⟩:=ZI h.fit.net h.net h2
  simp [h2,a1,a2,h3]
 ·have:0≤idxV (Zb w.network) p:=by omega
  simp [this]
theorem Zs8:∀ s∈ZiE w at_,ZB w.network s=some true∧s.at_≤at_:=by
 have hlen:=h.parts.2.1
 intro s hs
 unfold ZiE at hs
 rcases List.mem_append.1 hs with hs | hs
 ·obtain ⟨j,o,ho,hj⟩:=ZfK hs
  have hlt:=(List.getElem?_eq_some_iff.1 ho).1
  have hok:=Zdk h.fit h.ok ho
  rw [Nat.zero_add] at hj
  unfold Zca at hj
  split at hj
  ·rename_i t ht
   have htb:=hok.trip t (List.mem_of_getElem? ht)
   split at hj
   ·rename_i hc
    rcases List.mem_cons.1 hj with rfl | hj
    ·exact ⟨Zi2 h hn hm he (by omega) (.inl ⟨rfl,rfl,htb,by omega⟩),Int.le_refl _⟩
    ·split at hj
     ·rename_i hd
      obtain rfl:=List.mem_singleton.1 hj
      have hto:¬ idxV (Zb w.network) o.to_<0:=by
       have:=Zd8 h.ok ho
       unfold ZcY at this
       simp only [Bool.and_eq_true,Bool.not_eq_true',decide_eq_false_iff_not] at this
       exact this.1.1.1.1.1.1.1.1.1.1.2
      exact ⟨Zi2 h hn hm he (by omega) (.inr (.inr ⟨rfl,by rw [hd]; exact hto,rfl⟩)),Int.le_refl _⟩
     ·cases hj
   ·cases hj
  ·cases hj
 ·obtain ⟨j,o,ho,hj⟩:=ZfK hs
  have hlt:=(List.getElem?_eq_some_iff.1 ho).1
  rw [List.length_map] at hlt
  rw [List.getElem?_map] at ho
  obtain ⟨o0,ho0,rfl⟩:=Option.map_eq_some_iff.1 ho
  have hok:=Zdk h.fit h.ok ho0
  rw [Nat.zero_add] at hj
  unfold Zfu at hj
  split at hj
  ·rename_i t ht
   rw [(ZhZ w.network at_ o0).way] at ht
   have htb:=hok.trip t (List.mem_of_getElem? ht)
   split at hj
   ·rename_i hc
    obtain rfl:=List.mem_singleton.1 hj
    exact ⟨Zi2 h hn hm he (by omega) (.inr (.inl ⟨rfl,rfl,htb,by omega⟩)),Int.le_refl _⟩
   ·cases hj
  ·cases hj
theorem ZmZ {i:Nat} {o:YOrder} (ho:w.orders[i]?=some o) (s:List YScan) (m:Int):ZcY { w with orders:=w.orders.map (Zf2 w.network at_),now:=at_,scans:=s,made:=m } i (Zf2 w.network at_ o)=true:=by
 have hv:=Zd8 h.ok ho
 have hok:=Zdk h.fit h.ok ho
 have hl:=h.fit.way o (List.mem_of_getElem? ho)
 have hs:=Zhv w.network at_ o
 obtain ⟨k1,k2,_⟩:=Zts (h.way ho) (h.state ho) hn (he o (List.mem_of_getElem? ho))
 have hst:=(Zhu h.fit.net h.net k2.gone (by rw [hs.way]; exact hl) (by rw [hs.way]; exact hok.trip) at_).2 k1.ok
 have hcm:=Zq3 (n:=w.network) (at_:=at_) (o:=o)
 have hgn:=k2.gone
 unfold ZcY at hv ⊢
 simp only [Bool.and_eq_true,Bool.not_eq_true',decide_eq_true_iff,decide_eq_false_iff_not] at hv ⊢
 obtain ⟨⟨⟨⟨⟨⟨⟨⟨⟨⟨⟨h1,h2⟩,h3⟩,h4⟩,h5⟩,h6⟩,h7⟩,h8⟩,h9⟩,h10⟩,h11⟩,h12⟩:=hv
 have hend:endV w.network (Zf2 w.network at_ o)=endV w.network o:=by unfold endV; rw [hs.way,hs.from_]
 refine ⟨⟨⟨⟨⟨⟨⟨⟨⟨⟨⟨?_,?_⟩,?_⟩,?_⟩,?_⟩,?_⟩,?_⟩,?_⟩,?_⟩,?_⟩,?_⟩,?_⟩
 ·rw [hs.from_]; exact h1
 ·rw [hs.to_]; exact h2
 ·rw [hs.from_,hs.to_]; exact h3
 ·rw [hs.service]; exact h4
 ·rw [hs.weight]; exact h5
 ·rw [hs.at_]; exact ⟨h6.1,Int.le_trans h6.2 hn⟩
 ·rw [hs.due]; exact h7
 ·exact hgn
 ·rw [hs.way]
  refine (Zqb fun j x hx=>?_).trans h9
  unfold wayC
  simp only [hs.weight,hs.to_,hs.way]
 ·simp only [hend,hs.way,hs.from_,hs.at_]; exact h10
 ·rw [hst]; rfl
 ·rw [hs.way]
  exact Zuc (by omega) h12
theorem ZmY:WOk (ZbF w at_):=by
 have hp:=h.parts
 have hv:=h.ok
 have hsc:=Zlp (skip:=w.skip) (ZiE w at_) (w.scans,w.made) (n:=w.network) (at_:=at_) ⟨fun s hs=>?_,hp.2.2.2.1,hp.2.2.2.2.2.1⟩ (Zs8 h hn hm he)
 ·refine ⟨⟨h.fit.net,by simp only [ZbF,List.length_map]; exact h.fit.orders,h.fit.bookings,h.fit.closed,by have:=hsc.len; simp only [ZbF]; omega,h.fit.skip,fun o ho=>?_⟩,?_⟩
  ·simp only [ZbF,List.mem_map] at ho
   obtain ⟨o0,ho0,rfl⟩:=ho
   rw [(Zhv w.network at_ o0).way]
   exact h.fit.way o0 ho0
  ·unfold ZcB at hv ⊢
   simp only [Bool.and_eq_true,Bool.not_eq_true',decide_eq_true_iff,decide_eq_false_iff_not] at hv ⊢
   obtain ⟨⟨⟨⟨⟨⟨⟨⟨⟨⟨h1,h2⟩,h3⟩,h4⟩,h5⟩,h6⟩,h7⟩,h8⟩,h9⟩,h10⟩,h11⟩:=hv
   have hl:=hsc.len
   have hmd:=hsc.made
   refine ⟨⟨⟨⟨⟨⟨⟨⟨⟨⟨h1,?_⟩,?_⟩,h4⟩,?_⟩,h6⟩,?_⟩,h8⟩,?_⟩,?_⟩,?_⟩
   ·simp only [ZbF]; omega
   ·simp only [ZbF,List.length_map]; exact h3
   ·simp only [ZbF]; omega
   ·simp only [ZbF]; exact hmd
   ·refine Zas.2 fun j s hj=>?_
    obtain ⟨a,b⟩:=hsc.good s (List.mem_of_getElem? hj)
    show ((ZB w.network s).getD false && !decide (at_<s.at_))=true
    rw [a,decide_eq_false (show ¬ at_<s.at_ by omega)]; rfl
   ·refine Zas.2 fun j o hj=>?_
    simp only [ZbF,List.getElem?_map] at hj
    obtain ⟨o0,ho0,rfl⟩:=Option.map_eq_some_iff.1 hj
    rw [Nat.zero_add]
    exact ZmZ h hn hm he ho0 _ _
   ·unfold Zjg at h11 ⊢
    simp only [ZbF,List.foldl_map]
    rw [← h11]
    congr 1
    funext a o
    rw [(Zhv w.network at_ o).way]
 ·have:=ZgS h.fit h.ok hs
  exact ⟨this.1,by have:=this.2; omega⟩
end
def Zha (a:Int) (e:Option Int):Int:=match e with
 | some v=>if a<0∨v<a then v else a
 | none=>a
def Zc1 (w:YWorld):Int:=w.orders.foldl (fun a o=>Zha a (Zbj w.network o)) (-1)
theorem Zkb {n:YNetwork}:∀ (os:List YOrder) (a:Int),(∀ o∈os,∀ e,Zbj n o=some e→0≤e)→a<0∨0≤a→
 (os.foldl (fun a o=>Zha a (Zbj n o)) a=a∧a<0∧∀ o∈os,Zbj n o=none)∨
 (0≤os.foldl (fun a o=>Zha a (Zbj n o)) a∧(os.foldl (fun a o=>Zha a (Zbj n o)) a=a∨∃ o∈os,Zbj n o=some (os.foldl (fun a o=>Zha a (Zbj n o)) a))∧(0≤a→os.foldl (fun a o=>Zha a (Zbj n o)) a≤a)∧∀ o∈os,∀ e,Zbj n o=some e→os.foldl (fun a o=>Zha a (Zbj n o)) a≤e)
 | [],a,_,ha=>by
  rcases ha with ha | ha
  ·exact .inl ⟨rfl,ha,fun o h=>by cases h⟩
  ·exact .inr ⟨ha,.inl rfl,fun _=>Int.le_refl _,fun o h=>by cases h⟩
 | o::os,a,h,ha=>by
  simp only [List.foldl_cons]
  have h0:=h o List.mem_cons_self
  have hs:=fun x hx=>h x (List.mem_cons_of_mem o hx)
  cases ho:Zbj n o with
  | none=>
   have e:Zha a none=a:=rfl
   rw [e]
   rcases Zkb os a hs ha with ⟨k1,k2,k3⟩ | ⟨k1,k2,k3,k4⟩
   ·exact .inl ⟨k1,k2,fun x hx=>by rcases List.mem_cons.1 hx with rfl | hx
                                   ·exact ho
                                   ·exact k3 x hx⟩
   ·refine .inr ⟨k1,?_,k3,fun x hx e he=>?_⟩
    ·rcases k2 with k2 | ⟨x,hx,k2⟩
     ·exact .inl k2
     ·exact .inr ⟨x,List.mem_cons_of_mem _ hx,k2⟩
    ·rcases List.mem_cons.1 hx with rfl | hx
     ·rw [ho] at he; cases he
     ·exact k4 x hx e he
  | some v=>
   have hv:=h0 v ho
   have e:0≤Zha a (some v)∧Zha a (some v)≤v∧(0≤a→Zha a (some v)≤a)∧(Zha a (some v)=a∨Zha a (some v)=v):=by
    unfold Zha; simp only; split <;> omega
   obtain ⟨e1,e2,e3,e4⟩:=e
   rcases Zkb os (Zha a (some v)) hs (.inr e1) with ⟨k1,k2,k3⟩ | ⟨k1,k2,k3,k4⟩
   ·omega
   ·have k3':=k3 e1
    refine .inr ⟨k1,?_,fun ha=>by have:=e3 ha; omega,fun x hx e he=>?_⟩
    ·rcases k2 with k2 | ⟨x,hx,k2⟩
     ·rcases e4 with e4 | e4
      ·exact .inl (by rw [k2,e4])
      ·exact .inr ⟨o,List.mem_cons_self,by rw [k2,e4,ho]⟩
     ·exact .inr ⟨x,List.mem_cons_of_mem _ hx,k2⟩
    ·rcases List.mem_cons.1 hx with rfl | hx
     ·rw [ho] at he; obtain rfl:=Option.some.inj he; omega
     ·exact k4 x hx e he
theorem ZrS {n:YNetwork} {o:YOrder} (h:ZiK n o) {e:Int} (he:Zbj n o=some e):0≤e∧e≤100000:=by
 unfold Zbj at he
 cases ht:o.way[o.gone.toNat]? with
 | none=>rw [ht] at he; cases he
 | some t=>
  rw [ht] at he
  obtain ⟨a,b,c⟩:=h.trip t (List.mem_of_getElem? ht)
  simp only [Option.map_some,Option.some.injEq] at he
  subst he
  split <;> omega
theorem Ziu {w:YWorld} (h:WOk w):(Zc1 w=-1∧∀ o∈w.orders,Zbj w.network o=none)∨
 (w.now<Zc1 w∧Zc1 w≤100000∧(∃ o∈w.orders,Zbj w.network o=some (Zc1 w))∧∀ o∈w.orders,∀ e,Zbj w.network o=some e→Zc1 w≤e):=by
 have hp:∀ o∈w.orders,∀ e,Zbj w.network o=some e→0≤e∧e≤100000:=fun o ho e he=>by
  obtain ⟨i,hi,rfl⟩:=List.getElem_of_mem ho
  exact ZrS (h.way (List.getElem?_eq_getElem hi)) he
 rcases Zkb w.orders (-1) (fun o ho e he=>(hp o ho e he).1) (.inl (by omega)) with ⟨k1,_,k3⟩ | ⟨k1,k2,_,k4⟩
 ·exact .inl ⟨k1,k3⟩
 ·rcases k2 with k2 | ⟨o,ho,k2⟩
  ·exact absurd k1 (by rw [k2]; omega)
  ·refine .inr ⟨?_,(hp o ho _ k2).2,⟨o,ho,k2⟩,k4⟩
   obtain ⟨i,hi,rfl⟩:=List.getElem_of_mem ho
   have hs:=Zgs (h.state (List.getElem?_eq_getElem hi)) (h.way (List.getElem?_eq_getElem hi)).gone
   exact hs.next _ k2
theorem Zgi {w:YWorld} (h:WOk w) (hn:0≤Zc1 w):WOk (ZbF w (Zc1 w))∧w.now<Zc1 w∧Zc1 w≤100000:=by
 rcases Ziu h with ⟨k,_⟩ | ⟨k1,k2,k3,k4⟩
 ·omega
 ·exact ⟨ZmY h (by omega) k2 k4,k1,k2⟩
def Zgc (w:YWorld):Nat:=(w.orders.map Zeu).sum
theorem ZvC {α:Type} {f g:α→Nat}:∀ {l:List α},(∀ x∈l,f x≤g x)→(∃ x∈l,f x<g x)→(l.map f).sum<(l.map g).sum
 | [],_,⟨x,h,_⟩=>by cases h
 | a::l,h,⟨x,hx,hlt⟩=>by
  have h1:=h a List.mem_cons_self
  have h2:(l.map f).sum≤(l.map g).sum:=sum_le fun x hx=>h x (List.mem_cons_of_mem _ hx)
  simp only [List.map_cons,List.sum_cons]
  rcases List.mem_cons.1 hx with rfl | hx
  ·omega
  ·have:=ZvC (fun x hx=>h x (List.mem_cons_of_mem _ hx)) ⟨x,hx,hlt⟩
   omega
where
 sum_le {α:Type} {f g:α→Nat}:∀ {l:List α},(∀ x∈l,f x≤g x)→(l.map f).sum≤(l.map g).sum
 | [],_=>Nat.le_refl _
 | a::l,h=>by
  have h1:=h a List.mem_cons_self
  have h2:=sum_le fun x hx=>h x (List.mem_cons_of_mem _ hx)
  simp only [List.map_cons,List.sum_cons]
  omega
theorem Zgj {w:YWorld} (h:WOk w) (hn:0≤Zc1 w):Zgc (ZbF w (Zc1 w))<Zgc w:=by
 rcases Ziu h with ⟨k,_⟩ | ⟨k1,k2,⟨o,ho,k3⟩,k4⟩
 ·omega
 ·have hstep:∀ x∈w.orders,Zeu (Zf2 w.network (Zc1 w) x)≤Zeu x∧(Zbj w.network x=some (Zc1 w)→Zeu (Zf2 w.network (Zc1 w) x)<Zeu x):=fun x hx=>by
   obtain ⟨i,hi,rfl⟩:=List.getElem_of_mem hx
   have hi':=List.getElem?_eq_getElem hi
   exact (Zts (h.way hi') (h.state hi') (by omega) (k4 _ hx)).2.2
  unfold Zgc ZbF
  simp only [List.map_map]
  exact ZvC (f:=Zeu ∘ Zf2 w.network (Zc1 w)) (fun x hx=>(hstep x hx).1) ⟨o,ho,(hstep o ho).2 k3⟩
def runV:Nat→YWorld→Int→YWorld
 | 0,w,_=>w
 | k+1,w,u=>if Zc1 w<0∨u<Zc1 w then w else runV k (ZbF w (Zc1 w)) u
theorem ZnS {w:YWorld} (h:WOk w) (h0:Zgc w=0):Zc1 w=-1:=by
 rcases Ziu h with ⟨k,_⟩ | ⟨k1,k2,⟨o,ho,k3⟩,k4⟩
 ·exact k
 ·exfalso
  have hz:Zeu o=0:=by
   unfold Zgc at h0
   have:=List.sum_eq_zero_iff_forall_eq_nat.1 h0 (Zeu o) (List.mem_map_of_mem ho)
   exact this
  obtain ⟨i,hi,rfl⟩:=List.getElem_of_mem ho
  have hi':=List.getElem?_eq_getElem hi
  rw [ZtC (h.way hi') (h.state hi') hz] at k3
  cases k3
structure ZlL (w w':YWorld):Prop where
 network:w'.network=w.network
 bookings:w'.bookings=w.bookings
 closed:w'.closed=w.closed
 skip:w'.skip=w.skip
 len:w'.orders.length=w.orders.length
 ord:∀ (i:Nat) (o o':YOrder),w.orders[i]?=some o→w'.orders[i]?=some o'→Zgg o o'
theorem ZlL.refl (w:YWorld):ZlL w w:=⟨rfl,rfl,rfl,rfl,rfl,fun i o o' h h'=>by rw [h] at h'; obtain rfl:=Option.some.inj h'; exact .refl o⟩
theorem ZlL.trans {a b c:YWorld} (h:ZlL a b) (k:ZlL b c):ZlL a c:=by
 refine ⟨k.network.trans h.network,k.bookings.trans h.bookings,k.closed.trans h.closed,k.skip.trans h.skip,k.len.trans h.len,fun i o o' h1 h2=>?_⟩
 have hlt:=(List.getElem?_eq_some_iff.1 h1).1
 have hb:b.orders[i]?=some (b.orders[i]'(by rw [h.len]; exact hlt)):=List.getElem?_eq_getElem _
 exact (h.ord i o _ h1 hb).trans (k.ord i _ o' hb h2)
theorem Zor (w:YWorld) (at_:Int):ZlL w (ZbF w at_):=by
 refine ⟨rfl,rfl,rfl,rfl,by simp [ZbF],fun i o o' h h'=>?_⟩
 simp only [ZbF,List.getElem?_map,h,Option.map_some,Option.some.injEq] at h'
 subst h'
 exact Zhv _ _ o
theorem Zvy:∀ (k:Nat) (w:YWorld) (u:Int),WOk w→Zgc w≤k→u≤100000→WOk (runV k w u)∧(Zc1 (runV k w u)<0∨u<Zc1 (runV k w u))∧ZlL w (runV k w u)∧(w.now≤u→(runV k w u).now≤u)
 | 0,w,u,h,h0,hu=>⟨h,.inl (by have:=ZnS h (by omega); show Zc1 w<0; omega),.refl w,fun h=>h⟩
 | k+1,w,u,h,h0,hu=>by
  unfold runV
  split
  ·rename_i hc
   exact ⟨h,hc,.refl w,fun h=>h⟩
  ·rename_i hc
   obtain ⟨a,b,c⟩:=Zgi h (by omega)
   have ht:=Zgj h (by omega)
   obtain ⟨r1,r2,r3,r4⟩:=Zvy k (ZbF w (Zc1 w)) u a (by omega) hu
   exact ⟨r1,r2,(Zor w _).trans r3,fun _=>r4 (by show Zc1 w≤u; omega)⟩
theorem Zmm:∀ (k j:Nat) (w:YWorld) (u:Int),WOk w→Zgc w≤k→u≤100000→runV (k+j) w u=runV k w u
 | 0,j,w,u,h,h0,hu=>by
  have:=ZnS h (by omega)
  cases j with
  | zero=>rfl
  | succ j=>show runV (0+j+1) w u=w
            unfold runV
            rw [if_pos (.inl (by omega))]
 | k+1,j,w,u,h,h0,hu=>by
  rw [show k+1+j=(k+j)+1 by omega]
  unfold runV
  split
  ·rfl
  ·rename_i hc
   obtain ⟨a,b,c⟩:=Zgi h (by omega)
   have ht:=Zgj h (by omega)
   exact Zmm k j _ u a (by omega) hu
theorem Zw6 {k j:Nat} {w:YWorld} {u:Int} (h:WOk w) (hk:Zgc w≤k) (hj:Zgc w≤j) (hu:u≤100000):runV k w u=runV j w u:=by
 obtain ⟨a,rfl⟩:∃ a,k=Zgc w+a:=⟨k-Zgc w,by omega⟩
 obtain ⟨b,rfl⟩:∃ b,j=Zgc w+b:=⟨j-Zgc w,by omega⟩
 rw [Zmm _ a w u h (Nat.le_refl _) hu,Zmm _ b w u h (Nat.le_refl _) hu]
theorem Ztb {w:YWorld} (h:WOk w) {u:Int} (hu:w.now≤u) (hm:u≤100000) (hn:Zc1 w<0∨u<Zc1 w):WOk { w with now:=u }:=by
 have he:∀ o∈w.orders,∀ e,Zbj w.network o=some e→u<e:=fun o ho e he=>by
  rcases Ziu h with ⟨_,k⟩ | ⟨k1,_,_,k4⟩
  ·rw [k o ho] at he; cases he
  ·have:=k4 o ho e he
   have:=h.parts.1
   omega
 have hst:∀ o∈w.orders,Zf2 w.network u o=o:=fun o ho=>by
  have hev:=he o ho
  have e1:ZS w.network u o=o:=by
   unfold ZS
   cases ht:o.way[o.gone.toNat]? with
   | none=>rfl
   | some t=>
    simp only
    rw [if_neg]
    rintro ⟨c1,c2⟩
    have:=hev u (by unfold Zbj; rw [ht]; simp [c1,c2])
    omega
  unfold Zf2
  rw [e1]
  unfold ZfS
  cases ht:o.way[o.gone.toNat]? with
  | none=>rfl
  | some t=>
   simp only
   rw [if_neg]
   rintro ⟨c1,c2⟩
   have:=hev u (by unfold Zbj; rw [ht]; simp [c1,c2])
   omega
 have hmap:w.orders.map (Zf2 w.network u)=w.orders:=by
  conv=>rhs; rw [← List.map_id w.orders]
  exact List.map_congr_left fun o ho=>hst o ho
 have hok:=ZmY h hu hm (fun o ho e h'=>by have:=he o ho e h'; omega)
 have hv:=h.ok
 have hk:=hok.ok
 refine ⟨⟨h.fit.net,h.fit.orders,h.fit.bookings,h.fit.closed,h.fit.scans,h.fit.skip,h.fit.way⟩,?_⟩
 unfold ZcB at hv hk ⊢
 simp only [Bool.and_eq_true,Bool.not_eq_true',decide_eq_true_iff,decide_eq_false_iff_not] at hv hk ⊢
 obtain ⟨⟨⟨⟨⟨⟨⟨⟨⟨⟨h1,h2⟩,h3⟩,h4⟩,h5⟩,h6⟩,h7⟩,h8⟩,h9⟩,h10⟩,h11⟩:=hv
 obtain ⟨⟨⟨⟨⟨⟨⟨⟨⟨⟨k1,k2⟩,k3⟩,k4⟩,k5⟩,k6⟩,k7⟩,k8⟩,k9⟩,k10⟩,k11⟩:=hk
 refine ⟨⟨⟨⟨⟨⟨⟨⟨⟨⟨h1,⟨by omega,hm⟩⟩,h3⟩,h4⟩,h5⟩,h6⟩,h7⟩,h8⟩,?_⟩,?_⟩,h11⟩
 ·refine Zas.2 fun j s hj=>?_
  have:=Zas.1 h9 j s hj
  unfold Zk0 at this ⊢
  simp only [Bool.and_eq_true,Bool.not_eq_true',decide_eq_false_iff_not] at this ⊢
  exact ⟨this.1,by omega⟩
 ·refine Zas.2 fun j o hj=>?_
  have hj':(ZbF w u).orders[j]?=some o:=by simp only [ZbF,hmap]; exact hj
  have:=Zas.1 k10 j o hj'
  have e:∀ i,ZcY (ZbF w u) i o=ZcY { w with now:=u } i o:=fun i=>rfl
  rw [← e]; exact this
def advV (w:YWorld) (u:Int):YWorld:={ runV (Zgc w) w u with now:=u }
theorem Zrn {w:YWorld} (h:WOk w) {u:Int} (hu:w.now≤u) (hm:u≤100000):WOk (advV w u)∧ZlL w (advV w u)∧(Zc1 (advV w u)<0∨u<Zc1 (advV w u)):=by
 obtain ⟨a,b,c,d⟩:=Zvy _ w u h (Nat.le_refl _) hm
 exact ⟨Ztb a (d hu) hm b,⟨c.network,c.bookings,c.closed,c.skip,c.len,c.ord⟩,b⟩
def Zg8 (l:List Int) (n:Int) (s0:Int):Option (Int ⊕ (Unit ⊕ Bool)):=
 cond (decide (s0<(l.length:Int)))
 ((getI l s0).bind fun y1=>
 cond (decide (y1=n))
 (some (.inr (.inr true)))
 (some (.inl (w64 (s0+1)))))
 (some (.inr (.inl ())))
instance (l:List Int) (n:Int):LoopE (Zg8 l n):=⟨fun s0=>(.un::vi n::(U 5 (.sl (l.map cInt)::vi (l.length:Int)::vi s0::(U 7 [])))),fun s0=>[]⟩
def Zf8 (l:List Int) (n:Int):Option Bool:=
 (iterF (Zg8 l n) NN 0).bind (selim (fun o0=>
 some false) (fun r=>some r))
instance (l:List Int) (n:Int):CT Tryz.prog (Zf8 l n):=⟨204,[.sl (l.map cInt),vi n],[],fun r=>vb r,fun r=>[],fun H=>by replace H:=H0 H; unfold Zf8 at H; exact callM_of Tryz.func204 rfl Tryz.ntmps204 Tryz.results204 fun Q hQ hQn=>wk3⟩
def Za1 (w:YWorld) (s:YScan):Option YWorld:=
 (Zf8 w.skip (if 1000000000<(w64 (w.made+1)) then 1000000000 else (w64 (w.made+1)))).bind fun y1=>
 cond (!y1)
 (cond (decide ((w.scans.length:Int)<200))
 ((chk (appOk ((w.scans:List YScan).length+([s]:List YScan).length) 56)).bind fun _=>
 some (⟨w.network,w.orders,w.bookings,w.closed,w.now,((w.scans:List YScan)++[s]),w.skip,(if 1000000000<(w64 (w.made+1)) then 1000000000 else (w64 (w.made+1)))⟩:YWorld))
 (some (⟨w.network,w.orders,w.bookings,w.closed,w.now,w.scans,w.skip,(if 1000000000<(w64 (w.made+1)) then 1000000000 else (w64 (w.made+1)))⟩:YWorld)))
 (some (⟨w.network,w.orders,w.bookings,w.closed,w.now,w.scans,w.skip,(if 1000000000<(w64 (w.made+1)) then 1000000000 else (w64 (w.made+1)))⟩:YWorld))
instance (w:YWorld) (s:YScan):CT Tryz.prog (Za1 w s):=⟨138,[.be 0 0 0,.ag (cScan s)],[some ⟨.of 41,10,[[.ms 1,.ms 2,vi w.network.change,.ms 3,.ms 4,.ms 5,vi w.now,.ms 6,.ms 7,vi w.made]]⟩,some ⟨.of 67,6,w.network.legs.map cLeg⟩,some ⟨.of 3,1,w.network.off.map cInt⟩,some ⟨.of 62,11,w.orders.map cOrder⟩,some ⟨.of 135,4,w.bookings.map cBooking⟩,some ⟨.of 55,2,w.closed.map cTrip⟩,some ⟨.of 130,6,w.scans.map cScan⟩,some ⟨.of 3,1,w.skip.map cInt⟩],fun r=>.tu [],fun r=>[some ⟨.of 41,10,[[.ms 1,.ms 2,vi r.network.change,.ms 3,.ms 4,.ms 5,vi r.now,.ms 8,.ms 7,vi r.made]]⟩,some ⟨.of 67,6,r.network.legs.map cLeg⟩,some ⟨.of 3,1,r.network.off.map cInt⟩,some ⟨.of 62,11,r.orders.map cOrder⟩,some ⟨.of 135,4,r.bookings.map cBooking⟩,some ⟨.of 55,2,r.closed.map cTrip⟩,none,some ⟨.of 3,1,r.skip.map cInt⟩,some ⟨.of 130,6,r.scans.map cScan⟩],fun H=>by replace H:=H0 H; unfold Za1 at H; exact callM_of Tryz.func138 rfl Tryz.ntmps138 Tryz.results138 fun Q hQ hQn=>wk3⟩
def ZbO (w:YWorld) (at1_:Int) (s0:Int × Int × Int × Int × (List YLeg) × (List Int) × (List YOrder) × (List YBooking) × (List YTrip) × (List Int) × (List YScan)):Option ((Int × Int × Int × Int × (List YLeg) × (List Int) × (List YOrder) × (List YBooking) × (List YTrip) × (List Int) × (List YScan)) ⊕ (Int × Int × Int × (List YLeg) × (List Int) × (List YOrder) × (List YBooking) × (List YTrip) × (List Int) × (List YScan))):=
 cond (decide (s0.1<(w.orders.length:Int)))
 ((getI s0.2.2.2.2.2.2.1 s0.1).bind fun y1=>
 cond (!decide (y1.state=2))
 (some (.inl ((w64 (s0.1+1)),s0.2.1,s0.2.2.1,s0.2.2.2.1,s0.2.2.2.2.1,s0.2.2.2.2.2.1,s0.2.2.2.2.2.2.1,s0.2.2.2.2.2.2.2.1,s0.2.2.2.2.2.2.2.2.1,s0.2.2.2.2.2.2.2.2.2.1,s0.2.2.2.2.2.2.2.2.2.2)))
 ((getI y1.way y1.gone).bind fun y2=>
 (ZO (⟨s0.2.2.2.2.1,s0.2.2.2.2.2.1,w.network.change⟩:YNetwork) y2).bind fun y3=>
 cond (!decide (y3=at1_))
 (some (.inl ((w64 (s0.1+1)),s0.2.1,s0.2.2.1,s0.2.2.2.1,s0.2.2.2.2.1,s0.2.2.2.2.2.1,s0.2.2.2.2.2.2.1,s0.2.2.2.2.2.2.2.1,s0.2.2.2.2.2.2.2.2.1,s0.2.2.2.2.2.2.2.2.2.1,s0.2.2.2.2.2.2.2.2.2.2)))
 ((rgI s0.2.2.2.2.2.2.1 s0.1).bind fun y4=>
 (getI y4.way y4.gone).bind fun y5=>
 (rgI s0.2.2.2.2.2.2.1 s0.1).bind fun y6=>
 (getI s0.2.2.2.2.1 y5.leg).bind fun y7=>
 (rgI s0.2.2.2.2.2.2.1 s0.1).bind fun y8=>
 (frzL (s0.2.2.2.2.2.2.1.set (Int.toNat s0.1) (⟨y6.from_,y6.to_,y6.service,y6.weight,y6.at_,y6.due,y6.way,(w64 (y6.gone+1)),1,y7.to_,y6.ended⟩:YOrder)) (fun y9=>(.be 0 0 0::vi at1_::.un::.un::.be 9 0 0::vi s0.1::.be 3 (Int.toNat s0.1) 0::.be 10 0 0::(U 10 (vi (w.orders.length:Int)::vi s0.1::(U 167 []))))) (fun y9=>[some ⟨.of 41,10,[[.ms 1,.ms 2,vi s0.2.1,.ms 3,.ms 4,.ms 5,vi s0.2.2.1,.ms 8,.ms 7,vi s0.2.2.2.1]]⟩,some ⟨.of 67,6,s0.2.2.2.2.1.map cLeg⟩,some ⟨.of 3,1,s0.2.2.2.2.2.1.map cInt⟩,some ⟨.of 62,11,y9.map cOrder⟩,some ⟨.of 135,4,s0.2.2.2.2.2.2.2.1.map cBooking⟩,some ⟨.of 55,2,s0.2.2.2.2.2.2.2.2.1.map cTrip⟩,none,some ⟨.of 3,1,s0.2.2.2.2.2.2.2.2.2.1.map cInt⟩,some ⟨.of 130,6,s0.2.2.2.2.2.2.2.2.2.2.map cScan⟩,some ⟨.of 35,3,[[.ms 1,.ms 2,vi w.network.change]]⟩,some ⟨.of 55,2,[[vi y5.leg,vi y5.day]]⟩])).bind fun y9=>
 (rhoM [0,1,2,3,4,5,8,7]).bind fun _=>
 (Za1 (⟨(⟨s0.2.2.2.2.1,s0.2.2.2.2.2.1,s0.2.1⟩:YNetwork),y9,s0.2.2.2.2.2.2.2.1,s0.2.2.2.2.2.2.2.2.1,s0.2.2.1,s0.2.2.2.2.2.2.2.2.2.2,s0.2.2.2.2.2.2.2.2.2.1,s0.2.2.2.1⟩:YWorld) (⟨(w64 (s0.1+1)),at1_,2,⟨#[]⟩,y5⟩:YScan)).bind fun y10=>
 (rgI y10.orders s0.1).bind fun y11=>
 cond (decide (y11.place=y11.to_))
 ((frzL (y10.orders.set (Int.toNat s0.1) (⟨y11.from_,y11.to_,y11.service,y11.weight,y11.at_,y11.due,y11.way,y11.gone,3,y11.place,at1_⟩:YOrder)) (fun y12=>(.be 0 0 0::vi at1_::.un::.un::.be 9 0 0::vi s0.1::.be 3 (Int.toNat s0.1) 0::(U 11 (vi (w.orders.length:Int)::vi s0.1::(U 167 []))))) (fun y12=>[some ⟨.of 41,10,[[.ms 1,.ms 2,vi y10.network.change,.ms 3,.ms 4,.ms 5,vi y10.now,.ms 8,.ms 7,vi y10.made]]⟩,some ⟨.of 67,6,y10.network.legs.map cLeg⟩,some ⟨.of 3,1,y10.network.off.map cInt⟩,some ⟨.of 62,11,y12.map cOrder⟩,some ⟨.of 135,4,y10.bookings.map cBooking⟩,some ⟨.of 55,2,y10.closed.map cTrip⟩,none,some ⟨.of 3,1,y10.skip.map cInt⟩,some ⟨.of 130,6,y10.scans.map cScan⟩,some ⟨.of 35,3,[[.ms 1,.ms 2,vi w.network.change]]⟩])).bind fun y12=>
 (rgI y12 s0.1).bind fun y13=>
 (rhoM [0,1,2,3,4,5,8,7]).bind fun _=>
 (Za1 (⟨y10.network,y12,y10.bookings,y10.closed,y10.now,y10.scans,y10.skip,y10.made⟩:YWorld) (⟨(w64 (s0.1+1)),at1_,4,y13.place,(⟨0,0⟩:YTrip)⟩:YScan)).bind fun y14=>
 some (.inl ((w64 (s0.1+1)),y14.network.change,y14.now,y14.made,y14.network.legs,y14.network.off,y14.orders,y14.bookings,y14.closed,y14.skip,y14.scans)))
 (some (.inl ((w64 (s0.1+1)),y10.network.change,y10.now,y10.made,y10.network.legs,y10.network.off,y10.orders,y10.bookings,y10.closed,y10.skip,y10.scans))))))
 (some (.inr (s0.2.1,s0.2.2.1,s0.2.2.2.1,s0.2.2.2.2.1,s0.2.2.2.2.2.1,s0.2.2.2.2.2.2.1,s0.2.2.2.2.2.2.2.1,s0.2.2.2.2.2.2.2.2.1,s0.2.2.2.2.2.2.2.2.2.1,s0.2.2.2.2.2.2.2.2.2.2)))
instance (w:YWorld) (at1_:Int):LoopE (ZbO w at1_):=⟨fun s0=>(.be 0 0 0::vi at1_::.un::.un::.be 9 0 0::(U 13 (vi (w.orders.length:Int)::vi s0.1::(U 167 [])))),fun s0=>[some ⟨.of 41,10,[[.ms 1,.ms 2,vi s0.2.1,.ms 3,.ms 4,.ms 5,vi s0.2.2.1,.ms 8,.ms 7,vi s0.2.2.2.1]]⟩,some ⟨.of 67,6,s0.2.2.2.2.1.map cLeg⟩,some ⟨.of 3,1,s0.2.2.2.2.2.1.map cInt⟩,some ⟨.of 62,11,s0.2.2.2.2.2.2.1.map cOrder⟩,some ⟨.of 135,4,s0.2.2.2.2.2.2.2.1.map cBooking⟩,some ⟨.of 55,2,s0.2.2.2.2.2.2.2.2.1.map cTrip⟩,none,some ⟨.of 3,1,s0.2.2.2.2.2.2.2.2.2.1.map cInt⟩,some ⟨.of 130,6,s0.2.2.2.2.2.2.2.2.2.2.map cScan⟩,some ⟨.of 35,3,[[.ms 1,.ms 2,vi w.network.change]]⟩]⟩
def ZbP (w:YWorld) (at1_:Int) (o0:Int × Int × Int × (List YLeg) × (List Int) × (List YOrder) × (List YBooking) × (List YTrip) × (List Int) × (List YScan)) (s1:Int × Int × Int × Int × (List YLeg) × (List Int) × (List YOrder) × (List YBooking) × (List YTrip) × (List Int) × (List YScan)):Option ((Int × Int × Int × Int × (List YLeg) × (List Int) × (List YOrder) × (List YBooking) × (List YTrip) × (List Int) × (List YScan)) ⊕ (Int × Int × Int × (List YLeg) × (List Int) × (List YOrder) × (List YBooking) × (List YTrip) × (List Int) × (List YScan))):=
 cond (decide (s1.1<(o0.2.2.2.2.2.1.length:Int)))
 ((getI s1.2.2.2.2.2.2.1 s1.1).bind fun y15=>
 cond (decide (y15.state=1))
 (cond (decide (y15.gone<(y15.way.length:Int)))
 ((getI y15.way y15.gone).bind fun y16=>
 (ZH (⟨s1.2.2.2.2.1,s1.2.2.2.2.2.1,w.network.change⟩:YNetwork) y16).bind fun y17=>
 cond (decide (y17=at1_))
 ((rgI s1.2.2.2.2.2.2.1 s1.1).bind fun y18=>
 (frzL (s1.2.2.2.2.2.2.1.set (Int.toNat s1.1) (⟨y18.from_,y18.to_,y18.service,y18.weight,y18.at_,y18.due,y18.way,y18.gone,2,⟨#[]⟩,y18.ended⟩:YOrder)) (fun y19=>(.be 0 0 0::vi at1_::.un::.un::.be 9 0 0::(U 3 (vi s1.1::.be 3 (Int.toNat s1.1) 0::(U 107 (vi (o0.2.2.2.2.2.1.length:Int)::vi s1.1::(U 68 []))))))) (fun y19=>[some ⟨.of 41,10,[[.ms 1,.ms 2,vi s1.2.1,.ms 3,.ms 4,.ms 5,vi s1.2.2.1,.ms 8,.ms 7,vi s1.2.2.2.1]]⟩,some ⟨.of 67,6,s1.2.2.2.2.1.map cLeg⟩,some ⟨.of 3,1,s1.2.2.2.2.2.1.map cInt⟩,some ⟨.of 62,11,y19.map cOrder⟩,some ⟨.of 135,4,s1.2.2.2.2.2.2.2.1.map cBooking⟩,some ⟨.of 55,2,s1.2.2.2.2.2.2.2.2.1.map cTrip⟩,none,some ⟨.of 3,1,s1.2.2.2.2.2.2.2.2.2.1.map cInt⟩,some ⟨.of 130,6,s1.2.2.2.2.2.2.2.2.2.2.map cScan⟩,some ⟨.of 35,3,[[.ms 1,.ms 2,vi w.network.change]]⟩])).bind fun y19=>
 (drwL 8 [15]).bind fun _=>
 (rgI y19 s1.1).bind fun y20=>
 (getI y20.way y20.gone).bind fun y21=>
 (rhoM [0,1,2,3,4,5,8,7]).bind fun _=>
 (Za1 (⟨(⟨s1.2.2.2.2.1,s1.2.2.2.2.2.1,s1.2.1⟩:YNetwork),y19,s1.2.2.2.2.2.2.2.1,s1.2.2.2.2.2.2.2.2.1,s1.2.2.1,s1.2.2.2.2.2.2.2.2.2.2,s1.2.2.2.2.2.2.2.2.2.1,s1.2.2.2.1⟩:YWorld) (⟨(w64 (s1.1+1)),at1_,3,⟨#[]⟩,y21⟩:YScan)).bind fun y22=>
 some (.inl ((w64 (s1.1+1)),y22.network.change,y22.now,y22.made,y22.network.legs,y22.network.off,y22.orders,y22.bookings,y22.closed,y22.skip,y22.scans)))
 (some (.inl ((w64 (s1.1+1)),s1.2.1,s1.2.2.1,s1.2.2.2.1,s1.2.2.2.2.1,s1.2.2.2.2.2.1,s1.2.2.2.2.2.2.1,s1.2.2.2.2.2.2.2.1,s1.2.2.2.2.2.2.2.2.1,s1.2.2.2.2.2.2.2.2.2.1,s1.2.2.2.2.2.2.2.2.2.2))))
 (some (.inl ((w64 (s1.1+1)),s1.2.1,s1.2.2.1,s1.2.2.2.1,s1.2.2.2.2.1,s1.2.2.2.2.2.1,s1.2.2.2.2.2.2.1,s1.2.2.2.2.2.2.2.1,s1.2.2.2.2.2.2.2.2.1,s1.2.2.2.2.2.2.2.2.2.1,s1.2.2.2.2.2.2.2.2.2.2))))
 (some (.inl ((w64 (s1.1+1)),s1.2.1,s1.2.2.1,s1.2.2.2.1,s1.2.2.2.2.1,s1.2.2.2.2.2.1,s1.2.2.2.2.2.2.1,s1.2.2.2.2.2.2.2.1,s1.2.2.2.2.2.2.2.2.1,s1.2.2.2.2.2.2.2.2.2.1,s1.2.2.2.2.2.2.2.2.2.2))))
 (some (.inr (s1.2.1,s1.2.2.1,s1.2.2.2.1,s1.2.2.2.2.1,s1.2.2.2.2.2.1,s1.2.2.2.2.2.2.1,s1.2.2.2.2.2.2.2.1,s1.2.2.2.2.2.2.2.2.1,s1.2.2.2.2.2.2.2.2.2.1,s1.2.2.2.2.2.2.2.2.2.2)))
instance (w:YWorld) (at1_:Int) (o0:Int × Int × Int × (List YLeg) × (List Int) × (List YOrder) × (List YBooking) × (List YTrip) × (List Int) × (List YScan)):LoopE (ZbP w at1_ o0):=⟨fun s1=>(.be 0 0 0::vi at1_::.un::.un::.be 9 0 0::(U 112 (vi (o0.2.2.2.2.2.1.length:Int)::vi s1.1::(U 68 [])))),fun s1=>[some ⟨.of 41,10,[[.ms 1,.ms 2,vi s1.2.1,.ms 3,.ms 4,.ms 5,vi s1.2.2.1,.ms 8,.ms 7,vi s1.2.2.2.1]]⟩,some ⟨.of 67,6,s1.2.2.2.2.1.map cLeg⟩,some ⟨.of 3,1,s1.2.2.2.2.2.1.map cInt⟩,some ⟨.of 62,11,s1.2.2.2.2.2.2.1.map cOrder⟩,some ⟨.of 135,4,s1.2.2.2.2.2.2.2.1.map cBooking⟩,some ⟨.of 55,2,s1.2.2.2.2.2.2.2.2.1.map cTrip⟩,none,some ⟨.of 3,1,s1.2.2.2.2.2.2.2.2.2.1.map cInt⟩,some ⟨.of 130,6,s1.2.2.2.2.2.2.2.2.2.2.map cScan⟩,some ⟨.of 35,3,[[.ms 1,.ms 2,vi w.network.change]]⟩]⟩
def Zec (w:YWorld) (at1_:Int):Option YWorld:=
 (iterF (ZbO w at1_) NN (0,w.network.change,w.now,w.made,w.network.legs,w.network.off,w.orders,w.bookings,w.closed,w.skip,w.scans)).bind (fun o0=>
 (iterF (ZbP w at1_ o0) NN (0,o0.1,o0.2.1,o0.2.2.1,o0.2.2.2.1,o0.2.2.2.2.1,o0.2.2.2.2.2.1,o0.2.2.2.2.2.2.1,o0.2.2.2.2.2.2.2.1,o0.2.2.2.2.2.2.2.2.1,o0.2.2.2.2.2.2.2.2.2)).bind (fun o1=>
 some (⟨(⟨o1.2.2.2.1,o1.2.2.2.2.1,o1.1⟩:YNetwork),o1.2.2.2.2.2.1,o1.2.2.2.2.2.2.1,o1.2.2.2.2.2.2.2.1,at1_,o1.2.2.2.2.2.2.2.2.2,o1.2.2.2.2.2.2.2.2.1,o1.2.2.1⟩:YWorld)))
instance (w:YWorld) (at1_:Int):CT Tryz.prog (Zec w at1_):=⟨83,[.be 0 0 0,vi at1_],[some ⟨.of 41,10,[[.ms 1,.ms 2,vi w.network.change,.ms 3,.ms 4,.ms 5,vi w.now,.ms 6,.ms 7,vi w.made]]⟩,some ⟨.of 67,6,w.network.legs.map cLeg⟩,some ⟨.of 3,1,w.network.off.map cInt⟩,some ⟨.of 62,11,w.orders.map cOrder⟩,some ⟨.of 135,4,w.bookings.map cBooking⟩,some ⟨.of 55,2,w.closed.map cTrip⟩,some ⟨.of 130,6,w.scans.map cScan⟩,some ⟨.of 3,1,w.skip.map cInt⟩],fun r=>.tu [],fun r=>[some ⟨.of 41,10,[[.ms 1,.ms 2,vi r.network.change,.ms 3,.ms 4,.ms 5,vi r.now,.ms 8,.ms 7,vi r.made]]⟩,some ⟨.of 67,6,r.network.legs.map cLeg⟩,some ⟨.of 3,1,r.network.off.map cInt⟩,some ⟨.of 62,11,r.orders.map cOrder⟩,some ⟨.of 135,4,r.bookings.map cBooking⟩,some ⟨.of 55,2,r.closed.map cTrip⟩,none,some ⟨.of 3,1,r.skip.map cInt⟩,some ⟨.of 130,6,r.scans.map cScan⟩],fun H=>by replace H:=H0 H; unfold Zec at H; exact callM_of Tryz.func83 rfl Tryz.ntmps83 Tryz.results83 fun Q hQ hQn=>wk3⟩
def Zbo (w:YWorld) (s:YScan):Option YWorld:=
 cond (decide (w.made<1000000000))
 ((ZdX w.skip (w64 (w.made+1))).bind fun y1=>
 cond (!y1)
 (cond (decide ((w.scans.length:Int)<200))
 ((chk (appOk ((w.scans:List YScan).length+([s]:List YScan).length) 56)).bind fun _=>
 some (⟨w.network,w.orders,w.bookings,w.closed,w.now,((w.scans:List YScan)++[s]),w.skip,(w64 (w.made+1))⟩:YWorld))
 (some (⟨w.network,w.orders,w.bookings,w.closed,w.now,w.scans,w.skip,(w64 (w.made+1))⟩:YWorld)))
 (some (⟨w.network,w.orders,w.bookings,w.closed,w.now,w.scans,w.skip,(w64 (w.made+1))⟩:YWorld)))
 ((ZdX w.skip w.made).bind fun y2=>
 cond (!y2)
 (cond (decide ((w.scans.length:Int)<200))
 ((chk (appOk ((w.scans:List YScan).length+([s]:List YScan).length) 56)).bind fun _=>
 some (⟨w.network,w.orders,w.bookings,w.closed,w.now,((w.scans:List YScan)++[s]),w.skip,w.made⟩:YWorld))
 (some w))
 (some w))
instance (w:YWorld) (s:YScan):CT Tryz.prog (Zbo w s):=⟨133,[.be 0 0 0,.ag (cScan s)],[some ⟨.of 41,10,[[.ms 1,.ms 2,vi w.network.change,.ms 3,.ms 4,.ms 5,vi w.now,.ms 6,.ms 7,vi w.made]]⟩,some ⟨.of 67,6,w.network.legs.map cLeg⟩,some ⟨.of 3,1,w.network.off.map cInt⟩,some ⟨.of 62,11,w.orders.map cOrder⟩,some ⟨.of 135,4,w.bookings.map cBooking⟩,some ⟨.of 55,2,w.closed.map cTrip⟩,some ⟨.of 130,6,w.scans.map cScan⟩,some ⟨.of 3,1,w.skip.map cInt⟩],fun r=>.tu [],fun r=>[some ⟨.of 41,10,[[.ms 1,.ms 2,vi r.network.change,.ms 3,.ms 4,.ms 5,vi r.now,.ms 8,.ms 7,vi r.made]]⟩,some ⟨.of 67,6,r.network.legs.map cLeg⟩,some ⟨.of 3,1,r.network.off.map cInt⟩,some ⟨.of 62,11,r.orders.map cOrder⟩,some ⟨.of 135,4,r.bookings.map cBooking⟩,some ⟨.of 55,2,r.closed.map cTrip⟩,none,some ⟨.of 3,1,r.skip.map cInt⟩,some ⟨.of 130,6,r.scans.map cScan⟩],fun H=>by replace H:=H0 H; unfold Zbo at H; exact callM_of Tryz.func133 rfl Tryz.ntmps133 Tryz.results133 fun Q hQ hQn=>wk3⟩
def Zck (at1_:Int) (s0:Int × Int × Int × Int × (List YLeg) × (List Int) × (List YOrder) × (List YBooking) × (List YTrip) × (List Int) × (List YScan)):Option ((Int × Int × Int × Int × (List YLeg) × (List Int) × (List YOrder) × (List YBooking) × (List YTrip) × (List Int) × (List YScan)) ⊕ (Int × Int × Int × (List YLeg) × (List Int) × (List YOrder) × (List YBooking) × (List YTrip) × (List Int) × (List YScan))):=
 cond (decide (s0.1<(s0.2.2.2.2.2.2.1.length:Int)))
 ((getI s0.2.2.2.2.2.2.1 s0.1).bind fun y1=>
 cond (!decide (y1.state=2))
 (some (.inl ((w64 (s0.1+1)),s0.2.1,s0.2.2.1,s0.2.2.2.1,s0.2.2.2.2.1,s0.2.2.2.2.2.1,s0.2.2.2.2.2.2.1,s0.2.2.2.2.2.2.2.1,s0.2.2.2.2.2.2.2.2.1,s0.2.2.2.2.2.2.2.2.2.1,s0.2.2.2.2.2.2.2.2.2.2)))
 ((getI y1.way y1.gone).bind fun y2=>
 (Zq (⟨s0.2.2.2.2.1,s0.2.2.2.2.2.1,s0.2.1⟩:YNetwork) y2).bind fun y3=>
 cond (!decide (y3=at1_))
 (some (.inl ((w64 (s0.1+1)),s0.2.1,s0.2.2.1,s0.2.2.2.1,s0.2.2.2.2.1,s0.2.2.2.2.2.1,s0.2.2.2.2.2.2.1,s0.2.2.2.2.2.2.2.1,s0.2.2.2.2.2.2.2.2.1,s0.2.2.2.2.2.2.2.2.2.1,s0.2.2.2.2.2.2.2.2.2.2)))
 ((getI y1.way y1.gone).bind fun y4=>
 (rhoM [0,1,2,3,4,5,8,7]).bind fun _=>
 (Zbo (⟨(⟨s0.2.2.2.2.1,s0.2.2.2.2.2.1,s0.2.1⟩:YNetwork),s0.2.2.2.2.2.2.1,s0.2.2.2.2.2.2.2.1,s0.2.2.2.2.2.2.2.2.1,s0.2.2.1,s0.2.2.2.2.2.2.2.2.2.2,s0.2.2.2.2.2.2.2.2.2.1,s0.2.2.2.1⟩:YWorld) (⟨(w64 (s0.1+1)),at1_,2,⟨#[]⟩,y4⟩:YScan)).bind fun y5=>
 (getI y1.way y1.gone).bind fun y6=>
 (getI y5.network.legs y6.leg).bind fun y7=>
 (getI y5.orders s0.1).bind fun y8=>
 (getI y5.orders s0.1).bind fun y9=>
 (getI y5.orders s0.1).bind fun y10=>
 (getI y5.orders s0.1).bind fun y11=>
 cond (decide (y7.to_=y1.to_))
 ((getI y5.orders s0.1).bind fun y12=>
 (getI y5.orders s0.1).bind fun y13=>
 (frzL (y5.orders.set (Int.toNat s0.1) (⟨y8.from_,y8.to_,y8.service,y8.weight,y8.at_,y8.due,y8.way,(w64 (y1.gone+1)),3,y7.to_,at1_⟩:YOrder)) (fun y14=>(.be 0 0 0::vi at1_::.un::.un::vi s0.1::.be 9 0 0::(U 193 []))) (fun y14=>[some ⟨.of 41,10,[[.ms 1,.ms 2,vi y5.network.change,.ms 3,.ms 4,.ms 5,vi y5.now,.ms 8,.ms 7,vi y5.made]]⟩,some ⟨.of 67,6,y5.network.legs.map cLeg⟩,some ⟨.of 3,1,y5.network.off.map cInt⟩,some ⟨.of 62,11,y14.map cOrder⟩,some ⟨.of 135,4,y5.bookings.map cBooking⟩,some ⟨.of 55,2,y5.closed.map cTrip⟩,none,some ⟨.of 3,1,y5.skip.map cInt⟩,some ⟨.of 130,6,y5.scans.map cScan⟩,some ⟨.of 62,11,[[vs y1.from_,vs y1.to_,vi y1.service,vi y1.weight,vi y1.at_,vi y1.due,.sl (y1.way.map cTrip),vi y1.gone,vi y1.state,vs y1.place,vi y1.ended]]⟩])).bind fun y14=>
 (rhoM [0,1,2,3,4,5,8,7]).bind fun _=>
 (Zbo (⟨y5.network,y14,y5.bookings,y5.closed,y5.now,y5.scans,y5.skip,y5.made⟩:YWorld) (⟨(w64 (s0.1+1)),at1_,4,y1.to_,(⟨0,0⟩:YTrip)⟩:YScan)).bind fun y15=>
 some (.inl ((w64 (s0.1+1)),y15.network.change,y15.now,y15.made,y15.network.legs,y15.network.off,y15.orders,y15.bookings,y15.closed,y15.skip,y15.scans)))
 (some (.inl ((w64 (s0.1+1)),y5.network.change,y5.now,y5.made,y5.network.legs,y5.network.off,(y5.orders.set (Int.toNat s0.1) (⟨y8.from_,y8.to_,y8.service,y8.weight,y8.at_,y8.due,y8.way,(w64 (y1.gone+1)),1,y7.to_,y8.ended⟩:YOrder)),y5.bookings,y5.closed,y5.skip,y5.scans))))))
 (some (.inr (s0.2.1,s0.2.2.1,s0.2.2.2.1,s0.2.2.2.2.1,s0.2.2.2.2.2.1,s0.2.2.2.2.2.2.1,s0.2.2.2.2.2.2.2.1,s0.2.2.2.2.2.2.2.2.1,s0.2.2.2.2.2.2.2.2.2.1,s0.2.2.2.2.2.2.2.2.2.2)))
instance (at1_:Int):LoopE (Zck at1_):=⟨fun s0=>(.be 0 0 0::vi at1_::.un::.un::vi s0.1::(U 194 [])),fun s0=>[some ⟨.of 41,10,[[.ms 1,.ms 2,vi s0.2.1,.ms 3,.ms 4,.ms 5,vi s0.2.2.1,.ms 8,.ms 7,vi s0.2.2.2.1]]⟩,some ⟨.of 67,6,s0.2.2.2.2.1.map cLeg⟩,some ⟨.of 3,1,s0.2.2.2.2.2.1.map cInt⟩,some ⟨.of 62,11,s0.2.2.2.2.2.2.1.map cOrder⟩,some ⟨.of 135,4,s0.2.2.2.2.2.2.2.1.map cBooking⟩,some ⟨.of 55,2,s0.2.2.2.2.2.2.2.2.1.map cTrip⟩,none,some ⟨.of 3,1,s0.2.2.2.2.2.2.2.2.2.1.map cInt⟩,some ⟨.of 130,6,s0.2.2.2.2.2.2.2.2.2.2.map cScan⟩]⟩
def Zcl (at1_:Int) (s1:Int × Int × Int × Int × (List YLeg) × (List Int) × (List YOrder) × (List YBooking) × (List YTrip) × (List Int) × (List YScan)):Option ((Int × Int × Int × Int × (List YLeg) × (List Int) × (List YOrder) × (List YBooking) × (List YTrip) × (List Int) × (List YScan)) ⊕ (Int × Int × Int × (List YLeg) × (List Int) × (List YOrder) × (List YBooking) × (List YTrip) × (List Int) × (List YScan))):=
 cond (decide (s1.1<(s1.2.2.2.2.2.2.1.length:Int)))
 ((getI s1.2.2.2.2.2.2.1 s1.1).bind fun y16=>
 cond (decide (y16.state=1))
 (cond (decide (y16.gone<(y16.way.length:Int)))
 ((getI y16.way y16.gone).bind fun y17=>
 (Zp (⟨s1.2.2.2.2.1,s1.2.2.2.2.2.1,s1.2.1⟩:YNetwork) y17).bind fun y18=>
 cond (decide (y18=at1_))
 ((getI s1.2.2.2.2.2.2.1 s1.1).bind fun y19=>
 (getI s1.2.2.2.2.2.2.1 s1.1).bind fun y20=>
 (frzL (s1.2.2.2.2.2.2.1.set (Int.toNat s1.1) (⟨y19.from_,y19.to_,y19.service,y19.weight,y19.at_,y19.due,y19.way,y19.gone,2,⟨#[]⟩,y19.ended⟩:YOrder)) (fun y21=>(.be 0 0 0::vi at1_::(U 4 (vi s1.1::.be 9 0 0::(U 191 []))))) (fun y21=>[some ⟨.of 41,10,[[.ms 1,.ms 2,vi s1.2.1,.ms 3,.ms 4,.ms 5,vi s1.2.2.1,.ms 8,.ms 7,vi s1.2.2.2.1]]⟩,some ⟨.of 67,6,s1.2.2.2.2.1.map cLeg⟩,some ⟨.of 3,1,s1.2.2.2.2.2.1.map cInt⟩,some ⟨.of 62,11,y21.map cOrder⟩,some ⟨.of 135,4,s1.2.2.2.2.2.2.2.1.map cBooking⟩,some ⟨.of 55,2,s1.2.2.2.2.2.2.2.2.1.map cTrip⟩,none,some ⟨.of 3,1,s1.2.2.2.2.2.2.2.2.2.1.map cInt⟩,some ⟨.of 130,6,s1.2.2.2.2.2.2.2.2.2.2.map cScan⟩,some ⟨.of 62,11,[[vs y16.from_,vs y16.to_,vi y16.service,vi y16.weight,vi y16.at_,vi y16.due,.sl (y16.way.map cTrip),vi y16.gone,vi y16.state,vs y16.place,vi y16.ended]]⟩])).bind fun y21=>
 (getI y16.way y16.gone).bind fun y22=>
 (rhoM [0,1,2,3,4,5,8,7]).bind fun _=>
 (Zbo (⟨(⟨s1.2.2.2.2.1,s1.2.2.2.2.2.1,s1.2.1⟩:YNetwork),y21,s1.2.2.2.2.2.2.2.1,s1.2.2.2.2.2.2.2.2.1,s1.2.2.1,s1.2.2.2.2.2.2.2.2.2.2,s1.2.2.2.2.2.2.2.2.2.1,s1.2.2.2.1⟩:YWorld) (⟨(w64 (s1.1+1)),at1_,3,⟨#[]⟩,y22⟩:YScan)).bind fun y23=>
 some (.inl ((w64 (s1.1+1)),y23.network.change,y23.now,y23.made,y23.network.legs,y23.network.off,y23.orders,y23.bookings,y23.closed,y23.skip,y23.scans)))
 (some (.inl ((w64 (s1.1+1)),s1.2.1,s1.2.2.1,s1.2.2.2.1,s1.2.2.2.2.1,s1.2.2.2.2.2.1,s1.2.2.2.2.2.2.1,s1.2.2.2.2.2.2.2.1,s1.2.2.2.2.2.2.2.2.1,s1.2.2.2.2.2.2.2.2.2.1,s1.2.2.2.2.2.2.2.2.2.2))))
 (some (.inl ((w64 (s1.1+1)),s1.2.1,s1.2.2.1,s1.2.2.2.1,s1.2.2.2.2.1,s1.2.2.2.2.2.1,s1.2.2.2.2.2.2.1,s1.2.2.2.2.2.2.2.1,s1.2.2.2.2.2.2.2.2.1,s1.2.2.2.2.2.2.2.2.2.1,s1.2.2.2.2.2.2.2.2.2.2))))
 (some (.inl ((w64 (s1.1+1)),s1.2.1,s1.2.2.1,s1.2.2.2.1,s1.2.2.2.2.1,s1.2.2.2.2.2.1,s1.2.2.2.2.2.2.1,s1.2.2.2.2.2.2.2.1,s1.2.2.2.2.2.2.2.2.1,s1.2.2.2.2.2.2.2.2.2.1,s1.2.2.2.2.2.2.2.2.2.2))))
 (some (.inr (s1.2.1,s1.2.2.1,s1.2.2.2.1,s1.2.2.2.2.1,s1.2.2.2.2.2.1,s1.2.2.2.2.2.2.1,s1.2.2.2.2.2.2.2.1,s1.2.2.2.2.2.2.2.2.1,s1.2.2.2.2.2.2.2.2.2.1,s1.2.2.2.2.2.2.2.2.2.2)))
instance (at1_:Int):LoopE (Zcl at1_):=⟨fun s1=>(.be 0 0 0::vi at1_::(U 4 (vi s1.1::(U 192 [])))),fun s1=>[some ⟨.of 41,10,[[.ms 1,.ms 2,vi s1.2.1,.ms 3,.ms 4,.ms 5,vi s1.2.2.1,.ms 8,.ms 7,vi s1.2.2.2.1]]⟩,some ⟨.of 67,6,s1.2.2.2.2.1.map cLeg⟩,some ⟨.of 3,1,s1.2.2.2.2.2.1.map cInt⟩,some ⟨.of 62,11,s1.2.2.2.2.2.2.1.map cOrder⟩,some ⟨.of 135,4,s1.2.2.2.2.2.2.2.1.map cBooking⟩,some ⟨.of 55,2,s1.2.2.2.2.2.2.2.2.1.map cTrip⟩,none,some ⟨.of 3,1,s1.2.2.2.2.2.2.2.2.2.1.map cInt⟩,some ⟨.of 130,6,s1.2.2.2.2.2.2.2.2.2.2.map cScan⟩]⟩
def ZeD (w:YWorld) (at1_:Int):Option YWorld:=
 (iterF (Zck at1_) NN (0,w.network.change,w.now,w.made,w.network.legs,w.network.off,w.orders,w.bookings,w.closed,w.skip,w.scans)).bind (fun o0=>
 (iterF (Zcl at1_) NN (0,o0.1,o0.2.1,o0.2.2.1,o0.2.2.2.1,o0.2.2.2.2.1,o0.2.2.2.2.2.1,o0.2.2.2.2.2.2.1,o0.2.2.2.2.2.2.2.1,o0.2.2.2.2.2.2.2.2.1,o0.2.2.2.2.2.2.2.2.2)).bind (fun o1=>
 some (⟨(⟨o1.2.2.2.1,o1.2.2.2.2.1,o1.1⟩:YNetwork),o1.2.2.2.2.2.1,o1.2.2.2.2.2.2.1,o1.2.2.2.2.2.2.2.1,at1_,o1.2.2.2.2.2.2.2.2.2,o1.2.2.2.2.2.2.2.2.1,o1.2.2.1⟩:YWorld)))
instance (w:YWorld) (at1_:Int):CT Tryz.prog (ZeD w at1_):=⟨73,[.be 0 0 0,vi at1_],[some ⟨.of 41,10,[[.ms 1,.ms 2,vi w.network.change,.ms 3,.ms 4,.ms 5,vi w.now,.ms 6,.ms 7,vi w.made]]⟩,some ⟨.of 67,6,w.network.legs.map cLeg⟩,some ⟨.of 3,1,w.network.off.map cInt⟩,some ⟨.of 62,11,w.orders.map cOrder⟩,some ⟨.of 135,4,w.bookings.map cBooking⟩,some ⟨.of 55,2,w.closed.map cTrip⟩,some ⟨.of 130,6,w.scans.map cScan⟩,some ⟨.of 3,1,w.skip.map cInt⟩],fun r=>.tu [],fun r=>[some ⟨.of 41,10,[[.ms 1,.ms 2,vi r.network.change,.ms 3,.ms 4,.ms 5,vi r.now,.ms 8,.ms 7,vi r.made]]⟩,some ⟨.of 67,6,r.network.legs.map cLeg⟩,some ⟨.of 3,1,r.network.off.map cInt⟩,some ⟨.of 62,11,r.orders.map cOrder⟩,some ⟨.of 135,4,r.bookings.map cBooking⟩,some ⟨.of 55,2,r.closed.map cTrip⟩,none,some ⟨.of 3,1,r.skip.map cInt⟩,some ⟨.of 130,6,r.scans.map cScan⟩],fun H=>by replace H:=H0 H; unfold ZeD at H; exact callM_of Tryz.func73 rfl Tryz.ntmps73 Tryz.results73 fun Q hQ hQn=>wk3⟩
end Go.Proofs.YtmcdjilbkmhfoaaGreat
