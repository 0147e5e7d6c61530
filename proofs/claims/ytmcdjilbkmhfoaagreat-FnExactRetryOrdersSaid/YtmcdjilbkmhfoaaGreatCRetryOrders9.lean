/- A part of the proof of the statement in the last file of this claim: texts on the language of the program and on its functions. No condition. -/
import Derived.Test.YtmcdjilbkmhfoaaGreatCRetryOrders7
import Derived.Test.YtmcdjilbkmhfoaaGreatCRetryOrders8
import Derived.Test.YtmcdjilbkmhfoaaGreatCRetryOrders6
import Derived.Deep.RegionHeld3
import Derived.Test.YtmcdjilbkmhfoaaGreatCRetryOrders5
import Derived.Test.YtmcdjilbkmhfoaaGreatCRetryOrders4
set_option linter.unusedVariables false
set_option linter.unusedSimpArgs false
namespace Go.Proofs.YtmcdjilbkmhfoaaGreat
set_option maxRecDepth 10000
open Go.RowKit
set_option linter.unusedVariables false
set_option linter.unusedSimpArgs false
structure ZcT (w:World) (S:Nat→Prop) (x:YWorld) (v0 v1 v3 v4 v5 v7 v8:Value):Prop where
 r0:RepC w S (.sl (x.network.legs.map cLeg)) v0
 r1:RepC w S (.sl (x.network.off.map cInt)) v1
 r3:RepC w S (.sl (x.orders.map cOrder)) v3
 r4:RepC w S (.sl (x.bookings.map cBooking)) v4
 r5:RepC w S (.sl (x.closed.map cTrip)) v5
 r7:RepC w S (.sl (x.scans.map cScan)) v7
 r8:RepC w S (.sl (x.skip.map cInt)) v8
theorem ZcT.ext {w w':World} {S S':Nat→Prop} {x:YWorld} {v0 v1 v3 v4 v5 v7 v8:Value} (h:ZcT w S x v0 v1 v3 v4 v5 v7 v8) (hS:∀ b,S b→S' b) (hc:∀ b,S b→w'.heap[b]?=w.heap[b]?):ZcT w' S' x v0 v1 v3 v4 v5 v7 v8:=by
 have hc':∀ b o,S b→w'.cell? ⟨b,o,none⟩=w.cell? ⟨b,o,none⟩:=fun b o hb=>Zbt (hc b hb)
 exact ⟨h.r0.ext hS hc',h.r1.ext hS hc',h.r3.ext hS hc',h.r4.ext hS hc',h.r5.ext hS hc',h.r7.ext hS hc',h.r8.ext hS hc'⟩
theorem ZcT.up {w w':World} {x:YWorld} {v0 v1 v3 v4 v5 v7 v8:Value} (h:ZcT w (AllS w) x v0 v1 v3 v4 v5 v7 v8) (hu:Up w w'):ZcT w' (AllS w') x v0 v1 v3 v4 v5 v7 v8:=
 h.ext (fun b hb=>Nat.lt_of_lt_of_le hb hu.size) (fun b hb=>hu.block b hb)
theorem ZhV {es:List (List PV)} {w:World} {S:Nat→Prop} {v:Value} (h:RepC w S (.sl es) v):v.oneCell'=true:=by
 obtain ⟨A,c,rfl⟩:=Zs h; rfl
theorem ZcT.rep {w:World} {S:Nat→Prop} {x:YWorld} {v0 v1 v3 v4 v5 v7 v8:Value} (h:ZcT w S x v0 v1 v3 v4 v5 v7 v8):Rep w (E1 S (fun _=>none) 0) (.ag (cWorld x)) (.agg #[v0,v1,.int .i64 x.network.change,v3,v4,v5,.int .i64 x.now,v7,v8,.int .i64 x.made]):=by
 refine .ag _ _ rfl (fun j y hj=>?_) (fun j p y hp hy=>?_)
 ·match j,hj with
  | 0,hj=>obtain rfl:=Option.some.inj hj; exact ZhV h.r0
  | 1,hj=>obtain rfl:=Option.some.inj hj; exact ZhV h.r1
  | 2,hj=>obtain rfl:=Option.some.inj hj; rfl
  | 3,hj=>obtain rfl:=Option.some.inj hj; exact ZhV h.r3
  | 4,hj=>obtain rfl:=Option.some.inj hj; exact ZhV h.r4
  | 5,hj=>obtain rfl:=Option.some.inj hj; exact ZhV h.r5
  | 6,hj=>obtain rfl:=Option.some.inj hj; rfl
  | 7,hj=>obtain rfl:=Option.some.inj hj; exact ZhV h.r7
  | 8,hj=>obtain rfl:=Option.some.inj hj; exact ZhV h.r8
  | 9,hj=>obtain rfl:=Option.some.inj hj; rfl
  | n+10,hj=>simp at hj
 ·match j,hp,hy with
  | 0,hp,hy=>obtain rfl:=Option.some.inj hp; obtain rfl:=Option.some.inj hy; exact .c h.r0
  | 1,hp,hy=>obtain rfl:=Option.some.inj hp; obtain rfl:=Option.some.inj hy; exact .c h.r1
  | 2,hp,hy=>obtain rfl:=Option.some.inj hp; obtain rfl:=Option.some.inj hy; exact .c (.v _ rfl)
  | 3,hp,hy=>obtain rfl:=Option.some.inj hp; obtain rfl:=Option.some.inj hy; exact .c h.r3
  | 4,hp,hy=>obtain rfl:=Option.some.inj hp; obtain rfl:=Option.some.inj hy; exact .c h.r4
  | 5,hp,hy=>obtain rfl:=Option.some.inj hp; obtain rfl:=Option.some.inj hy; exact .c h.r5
  | 6,hp,hy=>obtain rfl:=Option.some.inj hp; obtain rfl:=Option.some.inj hy; exact .c (.v _ rfl)
  | 7,hp,hy=>obtain rfl:=Option.some.inj hp; obtain rfl:=Option.some.inj hy; exact .c h.r7
  | 8,hp,hy=>obtain rfl:=Option.some.inj hp; obtain rfl:=Option.some.inj hy; exact .c h.r8
  | 9,hp,hy=>obtain rfl:=Option.some.inj hp; obtain rfl:=Option.some.inj hy; exact .c (.v _ rfl)
  | n+10,hp,hy=>simp [cWorld] at hp
theorem worldR_of {w:World} {x:YWorld} {cs:Array Value} (h:Reads w (cWorld x) cs.toList):∃ u0 u1 u3 u4 u5 u7 u8,cs=#[u0,u1,.int .i64 x.network.change,u3,u4,u5,.int .i64 x.now,u7,u8,.int .i64 x.made]∧ZcT w (AllS w) x u0 u1 u3 u4 u5 u7 u8:=by
 obtain ⟨cs⟩:=cs
 have hl:=h.1
 match cs,hl,h with
 | [a0,a1,a2,a3,a4,a5,a6,a7,a8,a9],_,h=>
  have h2:=(h.2 2 _ a2 rfl rfl).2
  have h6:=(h.2 6 _ a6 rfl rfl).2
  have h9:=(h.2 9 _ a9 rfl rfl).2
  cases h2; cases h6; cases h9
  exact ⟨a0,a1,a3,a4,a5,a7,a8,rfl,⟨(h.2 0 _ a0 rfl rfl).2,(h.2 1 _ a1 rfl rfl).2,(h.2 3 _ a3 rfl rfl).2,(h.2 4 _ a4 rfl rfl).2,(h.2 5 _ a5 rfl rfl).2,(h.2 7 _ a7 rfl rfl).2,(h.2 8 _ a8 rfl rfl).2⟩⟩
theorem Zgp (x:YWorld) (ht:totWorld x≤1048576) {u0 u1 u3 u4 u5 u7 u8:Value} {w:World} (h:ZcT w (AllS w) x u0 u1 u3 u4 u5 u7 u8):
 Calls Tryz.prog 17 #[.agg #[u0,u1,.int .i64 x.network.change,u3,u4,u5,.int .i64 x.now,u7,u8,.int .i64 x.made]] w fun e w'=>∃ v0 v1 v3 v4 v5 v7 v8,e=.returned (.agg #[v0,v1,.int .i64 x.network.change,v3,v4,v5,.int .i64 x.now,v7,v8,.int .i64 x.made])∧Up w w'∧Zia w' w.heap.size v0 v1 v3 v4 v5 v7 v8∧ZcT w' (AllS w') x v0 v1 v3 v4 v5 v7 v8:=by
 have hf:=Zk5 ht
 have htt:totWorld x=totNetwork x.network+totS totOrder x.orders+x.bookings.length+x.closed.length+totS totScan x.scans+x.skip.length:=rfl
 have htn:totNetwork x.network=totS totLeg x.network.legs+x.network.off.length:=rfl
 have hos:totS totOrder x.orders=x.orders.length+(x.orders.map totOrder).sum:=rfl
 have hws:=ZqY (l:=x.orders)
 refine (Zot x ⟨hf.net.legs,hf.net.off⟩ (fun y hy=>by have:=Ze3 totLeg hy; omega) ⟨hf.orders,hf.bookings,hf.closed,hf.scans,hf.skip⟩ hf.way (fun y hy=>by have:=Ze3 totScan hy; omega) (S:=AllS w) (fun b hb=>hb) h.r0 h.r1 h.r3 h.r4 h.r5 h.r7 h.r8).mono ?_
 rintro e w' ⟨v0,v1,v3,v4,v5,v7,v8,rfl,hu,⟨s0,r0⟩,⟨s1,r1⟩,⟨s3,r3⟩,⟨s4,r4⟩,⟨s5,r5⟩,⟨s7,r7⟩,⟨s8,r8⟩⟩
 have hN:∀ b,NewS (AllS w) w w' b→AllS w' b:=by
  rintro b (h | h)
  ·exact Nat.lt_of_lt_of_le h hu.size
  ·exact h.2
 have ex:∀ {p:PV} {y:Value},RepC w' (NewS (AllS w) w w') p y→RepC w' (AllS w') p y:=fun h=>h.ext hN (fun _ _ _=>rfl)
 exact ⟨v0,v1,v3,v4,v5,v7,v8,rfl,hu,⟨⟨_,hf.net.legs,s0⟩,⟨_,hf.net.off,s1⟩,⟨_,by simpa using hf.orders,by omega,s3⟩,⟨_,hf.bookings,s4⟩,⟨_,hf.closed,s5⟩,⟨_,hf.scans,s7⟩,⟨_,hf.skip,s8⟩⟩,⟨ex r0,ex r1,ex r3,ex r4,ex r5,ex r7,ex r8⟩⟩
section
variable {P:Program}
theorem CallM.val {f:FuncId} {args:List PV} {v:Value} (h:CallM P f args [] (.v v) []) {w:World} {vs:Array Value} (hl:vs.size=args.length) (ha:∀ (i:Nat) (p:PV),args[i]?=some p→∃ x,vs[i]?=some x∧Rep w (E1 (AllS w) (fun _=>none) 0) p x):
 Calls P f vs w fun e w'=>e=.returned v∧Up w w':=by
 refine (h (AllS w) (fun _=>none) w vs (fun _ _=>False) (ZlN w) hl ha).mono ?_
 rintro e w' ⟨x,E',rfl,hk,_,_,_,hr⟩
 obtain ⟨rfl,_⟩:=hr.v_inv
 exact ⟨rfl,Zgq hk⟩
end
theorem arg2 {w:World} {E:Env} {p q:PV} {u v:Value} (hp:Rep w E p u) (hq:Rep w E q v):∀ (i:Nat) (r:PV),[p,q][i]?=some r→∃ x,#[u,v][i]?=some x∧Rep w E r x:=by
 intro i r hr
 match i,hr with
 | 0,hr=>obtain rfl:=Option.some.inj hr; exact ⟨_,rfl,hp⟩
 | 1,hr=>obtain rfl:=Option.some.inj hr; exact ⟨_,rfl,hq⟩
 | n+2,hr=>simp at hr
theorem argE {w:World} {E:Env} {p:PV} {u:Value} (hp:Rep w E p u):∀ (i:Nat) (r:PV),[p][i]?=some r→∃ x,#[u][i]?=some x∧Rep w E r x:=by
 intro i r hr
 match i,hr with
 | 0,hr=>obtain rfl:=Option.some.inj hr; exact ⟨_,rfl,hp⟩
 | n+1,hr=>simp at hr
theorem Own.repc {w:World} {B:Nat} {T:TypeId} {v:Value} {xs:List Int} (h:Own w B T v xs):RepC w (AllS w) (.sl (xs.map cInt)) v:=by
 rcases h.2 with ⟨rfl,h0⟩ | ⟨g,cap,cur,rfl,hB,hg,hnc,hcm,hcs,ht⟩
 ·have:xs=[]:=List.length_eq_zero_iff.1 h0
  subst this
  exact .nil _ _
 ·have hat:∀ (i:Nat) (cs:List PV) (j:Nat) (p:PV),(xs.map cInt)[i]?=some cs→cs[j]?=some p→∃ n:Int,j=0∧p=vi n∧w.cell? ⟨g,0+i*1+j,none⟩=some (.int .i64 n):=by
   intro i cs j p hi hj
   rw [List.getElem?_map] at hi
   obtain ⟨n,hn,rfl⟩:=Option.map_eq_some_iff.1 hi
   cases j with
   | succ j=>simp [cInt] at hj
   | zero=>
    obtain rfl:vi n=p:=by simpa [cInt] using hj
    refine ⟨n,rfl,rfl,?_⟩
    have hf:=Zfa hn (j:=0) (u:=I n) rfl
    rw [show Enc.k Int=1 from rfl] at hf
    have hlt:=(List.getElem?_eq_some_iff.1 hf).1
    have h2:(cur.toList.take (xs.length*Enc.k Int))[i*1+0]?=(flat xs)[i*1+0]?:=by rw [ht]
    rw [List.getElem?_take_of_lt (by rw [Zds] at hlt; exact hlt),Array.getElem?_toList,hf] at h2
    rw [cell_of_row w g _ cur T (0,0) hg]
    simpa using h2
  have h:=RepC.sl (w:=w) (S:=AllS w) (xs.map cInt) g 0 1 cap (fun i j=>(w.cell? ⟨g,0+i*1+j,none⟩).getD .nilIface) (Array.getElem?_eq_some_iff.1 hg).1 (by decide) (by simpa using hnc) hcm
   (fun i cs hi=>by rw [List.getElem?_map] at hi; obtain ⟨n,_,rfl⟩:=Option.map_eq_some_iff.1 hi; rfl)
   (fun i cs j p hi hj=>by obtain ⟨n,_,_,h⟩:=hat i cs j p hi hj; rw [h]; rfl)
   (fun i cs j p hi hj=>by obtain ⟨n,_,_,h⟩:=hat i cs j p hi hj; rw [h]; rfl)
   (fun i cs j p hi hj=>by obtain ⟨n,_,rfl,h⟩:=hat i cs j p hi hj; rw [h]; exact .v _ rfl)
  simpa only [List.length_map] using h
theorem Znj {w:World} {x:YWorld} (ht:totWorld x≤1048576) {v0 v1 v3 v4 v5 v7 v8 u0 u1 u3 u4 u5 u7 u8:Value} (h:ZcT w (AllS w) x v0 v1 v3 v4 v5 v7 v8) (h':ZcT w (AllS w) x u0 u1 u3 u4 u5 u7 u8):
 Calls Tryz.prog 19 #[.agg #[v0,v1,.int .i64 x.network.change,v3,v4,v5,.int .i64 x.now,v7,v8,.int .i64 x.made],.agg #[u0,u1,.int .i64 x.network.change,u3,u4,u5,.int .i64 x.now,u7,u8,.int .i64 x.made]] w fun e w'=>e=.returned (.bool true)∧Up w w':=
 CallM.val (Zey x x (Znl x ht)) rfl (arg2 h.rep h'.rep)
theorem Zkd {w:World} {x:YWorld} {y:Int} (hy:Zbv x 1048576=some y) {v0 v1 v3 v4 v5 v7 v8:Value} (h:ZcT w (AllS w) x v0 v1 v3 v4 v5 v7 v8):
 Calls Tryz.prog 15 #[.agg #[v0,v1,.int .i64 x.network.change,v3,v4,v5,.int .i64 x.now,v7,v8,.int .i64 x.made],.int .i64 1048576] w fun e w'=>e=.returned (.int .i64 y)∧Up w w':=
 CallM.val (Zfe x 1048576 hy) rfl (arg2 h.rep (.c (.v _ rfl)))
theorem Rd.int {w:World} {B:Nat} {A:Option Addr} {xs:List Int} {i:Nat} {x:Int} (h:Rd w B A xs) (hx:xs[i]?=some x):
 ∃ b off,A=some ⟨b,off,none⟩∧b<B∧w.cell? ⟨b,off+i,none⟩=some (I x):=by
 obtain ⟨b,off,e,hb,hc⟩:=h.at_ hx
 have h0:=hc 0 _ rfl
 have:off+i*Enc.k Int+0=off+i:=by show off+i*1+0=off+i; omega
 rw [this] at h0
 exact ⟨b,off,e,hb,h0⟩
theorem ZaA {w w':World} {b o:Nat} {v:Value} (hu:Up w w') (h:w.cell? ⟨b,o,none⟩=some v):w'.cell? ⟨b,o,none⟩=some v:=(hu.cell (p:=⟨b,o,none⟩) (World.block_lt_of_cell? _ _ h)).trans h
theorem Own.mk' {D:Nat→Prop} {w w':World} {B:Nat} {T:TypeId} {v:Value} {xs:List Int} (h:Own w B T v xs) (m:Mk KPT D w w') (hD:∀ g,v.ownBlock=some g→¬ D g):Own w' B T v xs:=by
 refine ⟨h.1,?_⟩
 rcases h.2 with h2 | ⟨g,cap,cur,hv,hB,hg,r⟩
 ·exact .inl h2
 ·exact .inr ⟨g,cap,cur,hv,hB,(m.low g (Array.getElem?_eq_some_iff.1 hg).1 (hD g (by rw [hv]; rfl))).trans hg,r⟩
theorem Up.mk' {D:Nat→Prop} {w a b:World} (h:Up w a) (m:Mk KPT D a b) (hD:∀ g,D g→w.heap.size≤g):Up w b:=
 ⟨m.os.trans h.os,m.tape.trans h.tape,m.output.trans h.output,Nat.le_trans h.size m.size,fun g hg=>(m.low g (Nat.lt_of_lt_of_le hg h.size) (fun hd=>by have:=hD g hd; omega)).trans (h.block g hg)⟩
set_option maxRecDepth 100000
set_option maxHeartbeats 4000000
theorem RB.repc {w:World} {T:TypeId} {k:Nat} {es0:List (List PV)} {B:Blk} (h:RB w T k es0 B) (es:List (List PV)) (hn:es.length=es0.length) (hk:∀ (i:Nat) (cs:List PV),es[i]?=some cs→cs.length=k)
 (hc:B.z=false→∀ (i:Nat) (cs:List PV) (j:Nat) (p:PV),es[i]?=some cs→cs[j]?=some p→∃ x,w.cell? ⟨B.b,i*k+j,none⟩=some x∧x.oneCell'=true∧RepC w (AllS w) p x):RepC w (AllS w) (.sl es) B.sv:=by
 have hBk:B.k=k:=h.k
 have hBn:B.n=es0.length:=h.n
 cases hz:B.z with
 | true=>
  have h0:es0=[]:=h.nil hz
  have:es=[]:=List.length_eq_zero_iff.1 (by rw [hn,h0]; rfl)
  subst this
  simp only [Blk.sv,hz,if_true]
  exact .nil _ _
 | false=>
  have hlt:=RB.lt h hz
  have hc:=hc hz
  have hat:∀ (i:Nat) (cs:List PV) (j:Nat) (p:PV),es[i]?=some cs→cs[j]?=some p→w.cell? ⟨B.b,0+i*k+j,none⟩=some ((w.cell? ⟨B.b,0+i*k+j,none⟩).getD .nilIface):=fun i cs j p hi hj=>by
   obtain ⟨x,a,_,_⟩:=hc i cs j p hi hj
   rw [Nat.zero_add,a]; rfl
  have hx:∀ (i:Nat) (cs:List PV) (j:Nat) (p:PV),es[i]?=some cs→cs[j]?=some p→((w.cell? ⟨B.b,0+i*k+j,none⟩).getD .nilIface).oneCell'=true∧RepC w (AllS w) p ((w.cell? ⟨B.b,0+i*k+j,none⟩).getD .nilIface):=fun i cs j p hi hj=>by
   obtain ⟨x,a,b,c⟩:=hc i cs j p hi hj
   rw [Nat.zero_add,a]
   exact ⟨b,c⟩
  have e:B.sv=.slice (some ⟨B.b,0,none⟩) es.length B.c:=by
   simp only [Blk.sv,hz]
   rw [hBn,hn]; rfl
  rw [e]
  exact .sl es B.b 0 k B.c _ hlt (by rw [← hBk]; exact h.pos) (by rw [hn,← hBn]; exact h.nc) h.cm hk hat (fun i cs j p hi hj=>(hx i cs j p hi hj).1) (fun i cs j p hi hj=>(hx i cs j p hi hj).2)
theorem RB.cell {w:World} {T:TypeId} {k:Nat} {es:List (List PV)} {B:Blk} (h:RB w T k es B) (hz:B.z=false) {i j:Nat} {cs:List PV} {p:PV} (hi:es[i]?=some cs) (hj:cs[j]?=some p):∃ x,w.cell? ⟨B.b,i*k+j,none⟩=some x∧x.oneCell'=true∧Rep w E00 p x:=by
 obtain ⟨cells,m1,m2,m3⟩:=h.mem hz
 obtain ⟨x,a,b,c⟩:=m3 i cs j p hi hj
 have hBk:B.k=k:=h.k
 rw [hBk] at a
 exact ⟨x,by rw [cell_of_row w B.b _ cells B.T (0,0) m1]; exact a,b,c⟩
theorem RB.flat {w:World} {T:TypeId} {k:Nat} {es:List (List PV)} {B:Blk} (h:RB w T k es B) (hf:∀ cs∈es,∀ p∈cs,∃ v,p=.v v):RepC w (AllS w) (.sl es) B.sv:=
 RB.repc h es rfl (fun i cs hi=>(h.es i cs hi).trans h.k) fun hz i cs j p hi hj=>by
  obtain ⟨x,a,b,c⟩:=RB.cell h hz hi hj
  obtain ⟨v,rfl⟩:=hf cs (List.mem_of_getElem? hi) p (List.mem_of_getElem? hj)
  obtain ⟨rfl,h1⟩:=c.v_inv
  exact ⟨x,a,b,.v _ h1⟩
theorem WayB.repc {w:World} {way:List YTrip} {u:Value} {B:Blk} (h:WayB w way u B):RepC w (AllS w) (.sl (way.map cTrip)) u:=by
 rcases h with ⟨rfl,_,A,c,rfl⟩ | ⟨_,rfl,hb⟩
 ·exact .nil A c
 ·exact RB.flat hb fun cs hcs p hp=>Ze9 hcs hp
theorem Zo6 {o:YOrder} {u:Value} {j:Nat} {p:PV} (h:(cOrder o)[j]?=some p) (h6:j≠6):(∃ v,p=.v v)∧(cOU o u)[j]?=some p:=by
 match j,h with
 | 0,h | 1,h | 2,h | 3,h | 4,h | 5,h | 7,h | 8,h | 9,h | 10,h=>obtain rfl:=Option.some.inj h; exact ⟨⟨_,rfl⟩,rfl⟩
 | 6,h=>exact absurd rfl h6
 | j+11,h=>simp [cOrder] at h
theorem GW.rep {w:World} {g:YWorld} {us:Nat→Value} {W:Nat→Blk} {B0 B1 B3 B4 B5 B7 B8:Blk} (h:GW w g us W B0 B1 B3 B4 B5 B7 B8):ZcT w (AllS w) g B0.sv B1.sv B3.sv B4.sv B5.sv B7.sv B8.sv where
 r0:=RB.flat h.r0 fun cs hcs p hp=>Zg5 hcs hp
 r1:=RB.flat h.r1 fun cs hcs p hp=>ZeT hcs hp
 r3:=RB.repc h.r3 _ (by rw [Zgf,List.length_map]) (fun i cs hi=>by
  obtain ⟨o,_,rfl⟩:=List.mem_map.1 (List.mem_of_getElem? hi); rfl) fun hz i cs j p hi hj=>by
  rw [List.getElem?_map] at hi
  obtain ⟨o,ho,rfl⟩:=Option.map_eq_some_iff.1 hi
  by_cases h6:j=6
  ·subst h6
   obtain ⟨x,a,b,c⟩:=RB.cell h.r3 hz (ZkH (us:=us) ho) (j:=6) (p:=.v (us i)) rfl
   obtain ⟨rfl,_⟩:=c.v_inv
   obtain rfl:=Option.some.inj hj
   exact ⟨_,a,b,(h.way i o ho).repc⟩
  ·obtain ⟨⟨v,rfl⟩,hj'⟩:=Zo6 (u:=us i) hj h6
   obtain ⟨x,a,b,c⟩:=RB.cell h.r3 hz (ZkH (us:=us) ho) hj'
   obtain ⟨rfl,h1⟩:=c.v_inv
   exact ⟨_,a,b,.v _ h1⟩
 r4:=RB.flat h.r4 fun cs hcs p hp=>ZeD hcs hp
 r5:=RB.flat h.r5 fun cs hcs p hp=>Ze9 hcs hp
 r7:=RB.flat h.r7 fun cs hcs p hp=>Zf2 hcs hp
 r8:=RB.flat h.r8 fun cs hcs p hp=>ZeT hcs hp
structure OwnW (w a:World) (g:YWorld) (us:Nat→Value) (W:Nat→Blk) (B0 B1 B3 B4 B5 B7 B8:Blk):Prop where
 gw:GW a g us W B0 B1 B3 B4 B5 B7 B8
 gd:GD g.orders.length W B0 B1 B3 B4 B5 B7 B8
 new:∀ b,GB g.orders W B0 B1 B3 B4 B5 B7 B8 b→w.heap.size≤b
section
variable {P:Program}
theorem CallM.world {f:FuncId} {args:List PV} {g:YWorld} (h:CallM P f args [] (aggW g) (Zpg g)) {w:World} {vs:Array Value} (hl:vs.size=args.length) (ha:∀ (i:Nat) (p:PV),args[i]?=some p→∃ x,vs[i]?=some x∧Rep w (E1 (AllS w) (fun _=>none) 0) p x):
 Calls P f vs w fun e a=>∃ us W B0 B1 B3 B4 B5 B7 B8,e=.returned (.agg #[Blk.sv B0,Blk.sv B1,.int .i64 g.network.change,Blk.sv B3,Blk.sv B4,Blk.sv B5,.int .i64 g.now,Blk.sv B7,Blk.sv B8,.int .i64 g.made])∧Up w a∧OwnW w a g us W B0 B1 B3 B4 B5 B7 B8:=by
 refine (h (AllS w) (fun _=>none) w vs (fun _ _=>False) (ZlN w) hl ha).mono ?_
 rintro e a ⟨v,E,rfl,hk,_,_,⟨_,hω⟩,hr⟩
 obtain ⟨B0,B1,B3,B4,B5,B7,B8,us,W,rfl,g1,g2,g3⟩:=Zrj hk (fun b=>Zez) (fun b q hq=>by
  rcases hω b q hq with h | h | h
  ·exact h.elim
  ·exact h
  ·exact absurd h Zez) hr
 exact ⟨us,W,B0,B1,B3,B4,B5,B7,B8,rfl,Zgq hk,g1,g2,g3⟩
end
def Zrw (g:YWorld):Mem:=[some ⟨.of 67,6,g.network.legs.map cLeg⟩,some ⟨.of 3,1,g.network.off.map cInt⟩,some ⟨.of 62,11,g.orders.map cOrder⟩,some ⟨.of 135,4,g.bookings.map cBooking⟩,some ⟨.of 55,2,g.closed.map cTrip⟩,some ⟨.of 130,6,g.scans.map cScan⟩,some ⟨.of 3,1,g.skip.map cInt⟩]
structure OwnV (w a:World) (g:YWorld) (us:Nat→Value) (W:Nat→Blk) (B0 B1 B3 B4 B5 B7 B8:Blk) (v0 v1 v3 v4 v5 v7 v8:Value):Prop extends OwnW w a g us W B0 B1 B3 B4 B5 B7 B8 where
 e0:v0=B0.sv
 e1:v1=B1.sv
 e3:v3=B3.sv
 e4:v4=B4.sv
 e5:v5=B5.sv
 e7:v7=B7.sv
 e8:v8=B8.sv
section
variable {w a b:World} {g:YWorld} {us:Nat→Value} {W:Nat→Blk} {B0 B1 B3 B4 B5 B7 B8:Blk} {v0 v1 v3 v4 v5 v7 v8:Value}
theorem OwnV.rep (h:OwnV w a g us W B0 B1 B3 B4 B5 B7 B8 v0 v1 v3 v4 v5 v7 v8):ZcT a (AllS a) g v0 v1 v3 v4 v5 v7 v8:=by
 rw [h.e0,h.e1,h.e3,h.e4,h.e5,h.e7,h.e8]; exact h.gw.rep
theorem OwnV.up (h:OwnV w a g us W B0 B1 B3 B4 B5 B7 B8 v0 v1 v3 v4 v5 v7 v8) (hu:Up a b):OwnV w b g us W B0 B1 B3 B4 B5 B7 B8 v0 v1 v3 v4 v5 v7 v8:=
 { h with gw:=h.gw.keepO (UpO.of hu) fun _ _ h=>h }
theorem Mk.upo {TO:TypeId→Nat→Prop} {D:Nat→Prop} (m:Mk TO D a b):UpO D a b:=⟨m.os,m.tape,m.output,m.size,m.low⟩
theorem OwnV.mk' {TO:TypeId→Nat→Prop} {D:Nat→Prop} (h:OwnV w a g us W B0 B1 B3 B4 B5 B7 B8 v0 v1 v3 v4 v5 v7 v8) (m:Mk TO D a b) (hD:∀ q,D q→q<w.heap.size):OwnV w b g us W B0 B1 B3 B4 B5 B7 B8 v0 v1 v3 v4 v5 v7 v8:=
 { h with gw:=h.gw.keepO m.upo fun q hq hd=>by have:=h.new q hq; have:=hD q hd; omega }
theorem Up.upo {O:Nat→Prop} (h:Up w a) (k:UpO O a b) (hO:∀ q,O q→w.heap.size≤q):Up w b:=
 ⟨k.os.trans h.os,k.tape.trans h.tape,k.output.trans h.output,Nat.le_trans h.size k.size,fun x hx=>(k.block x (Nat.lt_of_lt_of_le hx h.size) fun h'=>by have:=hO x h'; omega).trans (h.block x hx)⟩
theorem OwnV.mark (h:OwnV w a g us W B0 B1 B3 B4 B5 B7 B8 v0 v1 v3 v4 v5 v7 v8) (hf:Zh4 g 1) (v2 v6 v9:Value):
 Calls Tryz.prog 20 #[.agg #[v0,v1,v2,v3,v4,v5,v6,v7,v8,v9],.int .i64 1] a fun e b=>e=.returned (.int .i64 (k6W g 1))∧ZcT b (AllS b) (mkW g 1) v0 v1 v3 v4 v5 v7 v8∧UpO (fun q=>w.heap.size≤q∧q<a.heap.size∧GB g.orders W B0 B1 B3 B4 B5 B7 B8 q) a b:=by
 refine (ZkF v0 v1 v2 v3 v4 v5 v6 v7 v8 v9 h.e0 h.e1 h.e3 h.e4 h.e5 h.e7 h.e8 g 1 a h.gw h.gd hf).mono ?_
 rintro e b ⟨rfl,h1,h2⟩
 refine ⟨rfl,?_,h2.more fun q hq=>⟨h.new q hq,h.gw.lt hq,hq⟩⟩
 rw [h.e0,h.e1,h.e3,h.e4,h.e5,h.e7,h.e8]; exact h1.rep
theorem Zhx (hf:Zh4 g 1) (hr:ZcT a (AllS a) (mkW g 1) v0 v1 v3 v4 v5 v7 v8):
 Calls Tryz.prog 21 #[.agg #[v0,v1,.int .i64 g.network.change,v3,v4,v5,.int .i64 g.now,v7,v8,.int .i64 g.made],.int .i64 1] a fun e b=>e=.returned (.int .i64 (k6W g 1))∧Up a b:=
 CallM.val (CT.ok (Zjv hf)) rfl (arg2 hr.rep (.c (.v _ rfl)))
end
theorem Zhp {w:World} {x:YWorld} (ht:ZaZ x x=some true) {v0 v1 v3 v4 v5 v7 v8 u0 u1 u3 u4 u5 u7 u8:Value} (h:ZcT w (AllS w) x v0 v1 v3 v4 v5 v7 v8) (h':ZcT w (AllS w) x u0 u1 u3 u4 u5 u7 u8):
 Calls Tryz.prog 19 #[.agg #[v0,v1,.int .i64 x.network.change,v3,v4,v5,.int .i64 x.now,v7,v8,.int .i64 x.made],.agg #[u0,u1,.int .i64 x.network.change,u3,u4,u5,.int .i64 x.now,u7,u8,.int .i64 x.made]] w fun e w'=>e=.returned (.bool true)∧Up w w':=
 CallM.val (Zey x x ht) rfl (arg2 h.rep h'.rep)
section
variable {P:Program}
theorem Zmy {w a:World} {E:Env} {g:YWorld} {v:Value} (hk:Ok w (own0 fun _=>none) E a (Zpg g)) (hω:∀ b q,E.ω b q→False∨w.heap.size≤b∨own0 (fun _=>none) b) (hr:Rep a E (aggW g) v):
 ∃ X0 c0 X1 c1 X3 c3 X4 c4 X5 c5 X7 c7 X8 c8 us W B0 B1 B3 B4 B5 B7 B8,v=.agg #[.slice X0 g.network.legs.length c0,.slice X1 g.network.off.length c1,.int .i64 g.network.change,.slice X3 g.orders.length c3,.slice X4 g.bookings.length c4,.slice X5 g.closed.length c5,.int .i64 g.now,.slice X7 g.scans.length c7,.slice X8 g.skip.length c8,.int .i64 g.made]∧OwnV w a g us W B0 B1 B3 B4 B5 B7 B8 (.slice X0 g.network.legs.length c0) (.slice X1 g.network.off.length c1) (.slice X3 g.orders.length c3) (.slice X4 g.bookings.length c4) (.slice X5 g.closed.length c5) (.slice X7 g.scans.length c7) (.slice X8 g.skip.length c8):=by
 obtain ⟨B0,B1,B3,B4,B5,B7,B8,us,W,rfl,g1,g2,g3⟩:=Zrj hk (fun b=>Zez) (fun b q hq=>by
  rcases hω b q hq with h | h | h
  ·exact h.elim
  ·exact h
  ·exact absurd h Zez) hr
 obtain ⟨X0,c0,e0⟩:=Zs g1.rep.r0
 obtain ⟨X1,c1,e1⟩:=Zs g1.rep.r1
 obtain ⟨X3,c3,e3⟩:=Zs g1.rep.r3
 obtain ⟨X4,c4,e4⟩:=Zs g1.rep.r4
 obtain ⟨X5,c5,e5⟩:=Zs g1.rep.r5
 obtain ⟨X7,c7,e7⟩:=Zs g1.rep.r7
 obtain ⟨X8,c8,e8⟩:=Zs g1.rep.r8
 rw [List.length_map] at e0 e1 e3 e4 e5 e7 e8
 exact ⟨X0,c0,X1,c1,X3,c3,X4,c4,X5,c5,X7,c7,X8,c8,us,W,B0,B1,B3,B4,B5,B7,B8,by rw [e0,e1,e3,e4,e5,e7,e8],⟨⟨g1,g2,g3⟩,e0.symm,e1.symm,e3.symm,e4.symm,e5.symm,e7.symm,e8.symm⟩⟩
theorem Znz {l:List YOrder}:∀ cs∈l.map cOrder,∀ q∈cs,isC q=true:=by
 intro cs hcs q hq
 obtain ⟨o,_,rfl⟩:=List.mem_map.1 hcs
 simp only [cOrder,List.mem_cons,List.not_mem_nil,or_false] at hq
 repeat (first | (rcases hq with rfl | hq; rfl) | (subst hq; rfl))
theorem Zwy {w a:World} {E:Env} {g:YWorld} {v:Value} {S:Nat→Prop} (hk:Ok w (own0 fun _=>none) E a (Zrw g)) (hS:∀ b,E.S b→S b) (hO:∀ (l:Nat) (B:Blk),E.β l=some B→B.z=false→S B.b) (hr:Rep a E (aggW g) v):
 ∃ X0 c0 X1 c1 X3 c3 X4 c4 X5 c5 X7 c7 X8 c8,v=.agg #[.slice X0 g.network.legs.length c0,.slice X1 g.network.off.length c1,.int .i64 g.network.change,.slice X3 g.orders.length c3,.slice X4 g.bookings.length c4,.slice X5 g.closed.length c5,.int .i64 g.now,.slice X7 g.scans.length c7,.slice X8 g.skip.length c8,.int .i64 g.made]∧ZcT a S g (.slice X0 g.network.legs.length c0) (.slice X1 g.network.off.length c1) (.slice X3 g.orders.length c3) (.slice X4 g.bookings.length c4) (.slice X5 g.closed.length c5) (.slice X7 g.scans.length c7) (.slice X8 g.skip.length c8):=by
 obtain ⟨vs,rfl,hl,h1,hv⟩:=hr.ag_inv
 have hvl:vs.size=10:=hl
 have at_:∀ {j:Nat} {p:PV},j<10→[PV.ms 0,.ms 1,vi g.network.change,.ms 2,.ms 3,.ms 4,vi g.now,.ms 5,.ms 6,vi g.made][j]?=some p→∃ x,vs[j]?=some x∧Rep a E p x:=fun {j p} hj hp=>⟨vs[j]'(by omega),Array.getElem?_eq_getElem _,hv j p _ hp (Array.getElem?_eq_getElem _)⟩
 obtain ⟨x0,y0,z0⟩:=at_ (j:=0) (by omega) rfl
 obtain ⟨x1,y1,z1⟩:=at_ (j:=1) (by omega) rfl
 obtain ⟨x2,y2,z2⟩:=at_ (j:=2) (by omega) rfl
 obtain ⟨x3,y3,z3⟩:=at_ (j:=3) (by omega) rfl
 obtain ⟨x4,y4,z4⟩:=at_ (j:=4) (by omega) rfl
 obtain ⟨x5,y5,z5⟩:=at_ (j:=5) (by omega) rfl
 obtain ⟨x6,y6,z6⟩:=at_ (j:=6) (by omega) rfl
 obtain ⟨x7,y7,z7⟩:=at_ (j:=7) (by omega) rfl
 obtain ⟨x8,y8,z8⟩:=at_ (j:=8) (by omega) rfl
 obtain ⟨x9,y9,z9⟩:=at_ (j:=9) (by omega) rfl
 have hvs:vs=#[x0,x1,x2,x3,x4,x5,x6,x7,x8,x9]:=by
  apply Array.ext (by simp [hvl])
  intro i hi h3
  have e:=fun {j:Nat} {y:Value} (h:vs[j]?=some y)=>(Array.getElem?_eq_some_iff.1 h).2
  match i,hi with
  | 0,_=>simpa using e y0
  | 1,_=>simpa using e y1
  | 2,_=>simpa using e y2
  | 3,_=>simpa using e y3
  | 4,_=>simpa using e y4
  | 5,_=>simpa using e y5
  | 6,_=>simpa using e y6
  | 7,_=>simpa using e y7
  | 8,_=>simpa using e y8
  | 9,_=>simpa using e y9
  | i+10,hi=>omega
 obtain ⟨B0,b0,r0,rfl⟩:=z0.ms_inv hk (l:=0) rfl
 obtain ⟨B1,b1,r1,rfl⟩:=z1.ms_inv hk (l:=1) rfl
 obtain ⟨rfl,_⟩:=z2.v_inv
 obtain ⟨B3,b3,r3,rfl⟩:=z3.ms_inv hk (l:=2) rfl
 obtain ⟨B4,b4,r4,rfl⟩:=z4.ms_inv hk (l:=3) rfl
 obtain ⟨B5,b5,r5,rfl⟩:=z5.ms_inv hk (l:=4) rfl
 obtain ⟨rfl,_⟩:=z6.v_inv
 obtain ⟨B7,b7,r7,rfl⟩:=z7.ms_inv hk (l:=5) rfl
 obtain ⟨B8,b8,r8,rfl⟩:=z8.ms_inv hk (l:=6) rfl
 obtain ⟨rfl,_⟩:=z9.v_inv
 have hf:∀ {cs:List PV},(∀ p∈cs,∃ v,p=PV.v v)→∀ q∈cs,isC q=true:=fun h q hq=>by obtain ⟨v,rfl⟩:=h q hq; rfl
 have q0:RepC a S (.sl (g.network.legs.map cLeg)) B0.sv:=row_all b0 r0 (fun cs hcs=>hf fun p hp=>Zg5 hcs hp) hS fun hz=>hO _ _ b0 hz
 have q1:RepC a S (.sl (g.network.off.map cInt)) B1.sv:=row_all b1 r1 (fun cs hcs=>hf fun p hp=>ZeT hcs hp) hS fun hz=>hO _ _ b1 hz
 have q3:RepC a S (.sl (g.orders.map cOrder)) B3.sv:=row_all b3 r3 Znz hS fun hz=>hO _ _ b3 hz
 have q4:RepC a S (.sl (g.bookings.map cBooking)) B4.sv:=row_all b4 r4 (fun cs hcs=>hf fun p hp=>ZeD hcs hp) hS fun hz=>hO _ _ b4 hz
 have q5:RepC a S (.sl (g.closed.map cTrip)) B5.sv:=row_all b5 r5 (fun cs hcs=>hf fun p hp=>Ze9 hcs hp) hS fun hz=>hO _ _ b5 hz
 have q7:RepC a S (.sl (g.scans.map cScan)) B7.sv:=row_all b7 r7 (fun cs hcs=>hf fun p hp=>Zf2 hcs hp) hS fun hz=>hO _ _ b7 hz
 have q8:RepC a S (.sl (g.skip.map cInt)) B8.sv:=row_all b8 r8 (fun cs hcs=>hf fun p hp=>ZeT hcs hp) hS fun hz=>hO _ _ b8 hz
 obtain ⟨X0,c0,e0⟩:=Zs q0
 obtain ⟨X1,c1,e1⟩:=Zs q1
 obtain ⟨X3,c3,e3⟩:=Zs q3
 obtain ⟨X4,c4,e4⟩:=Zs q4
 obtain ⟨X5,c5,e5⟩:=Zs q5
 obtain ⟨X7,c7,e7⟩:=Zs q7
 obtain ⟨X8,c8,e8⟩:=Zs q8
 rw [List.length_map] at e0 e1 e3 e4 e5 e7 e8
 rw [e0] at q0
 rw [e1] at q1
 rw [e3] at q3
 rw [e4] at q4
 rw [e5] at q5
 rw [e7] at q7
 rw [e8] at q8
 exact ⟨X0,c0,X1,c1,X3,c3,X4,c4,X5,c5,X7,c7,X8,c8,by rw [hvs,e0,e1,e3,e4,e5,e7,e8],⟨q0,q1,q3,q4,q5,q7,q8⟩⟩
theorem Zmz {w a:World} {E:Env} {g:YWorld} {v:Value} (hk:Ok w (own0 fun _=>none) E a (Zrw g)) (hr:Rep a E (aggW g) v):
 ∃ X0 c0 X1 c1 X3 c3 X4 c4 X5 c5 X7 c7 X8 c8,v=.agg #[.slice X0 g.network.legs.length c0,.slice X1 g.network.off.length c1,.int .i64 g.network.change,.slice X3 g.orders.length c3,.slice X4 g.bookings.length c4,.slice X5 g.closed.length c5,.int .i64 g.now,.slice X7 g.scans.length c7,.slice X8 g.skip.length c8,.int .i64 g.made]∧ZcT a (AllS a) g (.slice X0 g.network.legs.length c0) (.slice X1 g.network.off.length c1) (.slice X3 g.orders.length c3) (.slice X4 g.bookings.length c4) (.slice X5 g.closed.length c5) (.slice X7 g.scans.length c7) (.slice X8 g.skip.length c8):=
 Zwy hk (fun b hb=>hk.sz b hb) (fun l B hB hz=>(hk.own l B hB hz).2.1) hr
end
variable {P:Program}
theorem Zn9 {w:World} {E:Env} {p:PV} {z1 v:Value} (h:Rep w E (.tu [p,.v z1]) v):∃ u,v=.tuple #[u,z1]∧Rep w E p u:=by
 cases h with
 | c h=>cases h
 | tu ps vs hl hr=>
  obtain ⟨vs⟩:=vs
  match vs,hl,hr with
  | [u,y1],_,hr=>
   obtain ⟨rfl,_⟩:=(hr 1 (.v z1) _ rfl rfl).v_inv
   exact ⟨u,rfl,hr 0 p u rfl rfl⟩
theorem CallM.worldO1 {f:FuncId} {args:List PV} {g:YWorld} {z1:Value} (h:CallM P f args [] (.tu [aggW g,.v z1]) (Zpg g)) {w:World} {vs:Array Value} (hl:vs.size=args.length) (ha:∀ (i:Nat) (p:PV),args[i]?=some p→∃ x,vs[i]?=some x∧Rep w (E1 (AllS w) (fun _=>none) 0) p x):
 Calls P f vs w fun e a=>∃ X0 c0 X1 c1 X3 c3 X4 c4 X5 c5 X7 c7 X8 c8 us W B0 B1 B3 B4 B5 B7 B8,e=.returned (.tuple #[.agg #[.slice X0 g.network.legs.length c0,.slice X1 g.network.off.length c1,.int .i64 g.network.change,.slice X3 g.orders.length c3,.slice X4 g.bookings.length c4,.slice X5 g.closed.length c5,.int .i64 g.now,.slice X7 g.scans.length c7,.slice X8 g.skip.length c8,.int .i64 g.made],z1])∧Up w a∧OwnV w a g us W B0 B1 B3 B4 B5 B7 B8 (.slice X0 g.network.legs.length c0) (.slice X1 g.network.off.length c1) (.slice X3 g.orders.length c3) (.slice X4 g.bookings.length c4) (.slice X5 g.closed.length c5) (.slice X7 g.scans.length c7) (.slice X8 g.skip.length c8):=by
 refine (h (AllS w) (fun _=>none) w vs (fun _ _=>False) (ZlN w) hl ha).mono ?_
 rintro e a ⟨v,E,rfl,hk,_,_,⟨_,hω⟩,hr⟩
 obtain ⟨u,rfl,hr1⟩:=Zn9 hr
 obtain ⟨X0,c0,X1,c1,X3,c3,X4,c4,X5,c5,X7,c7,X8,c8,us,W,B0,B1,B3,B4,B5,B7,B8,rfl,ho⟩:=Zmy hk hω hr1
 exact ⟨X0,c0,X1,c1,X3,c3,X4,c4,X5,c5,X7,c7,X8,c8,us,W,B0,B1,B3,B4,B5,B7,B8,rfl,Zgq hk,ho⟩
theorem CallM.worldR1 {f:FuncId} {args:List PV} {g:YWorld} {z1:Value} (h:CallM P f args [] (.tu [aggW g,.v z1]) (Zrw g)) {w:World} {vs:Array Value} (hl:vs.size=args.length) (ha:∀ (i:Nat) (p:PV),args[i]?=some p→∃ x,vs[i]?=some x∧Rep w (E1 (AllS w) (fun _=>none) 0) p x):
 Calls P f vs w fun e a=>∃ X0 c0 X1 c1 X3 c3 X4 c4 X5 c5 X7 c7 X8 c8,e=.returned (.tuple #[.agg #[.slice X0 g.network.legs.length c0,.slice X1 g.network.off.length c1,.int .i64 g.network.change,.slice X3 g.orders.length c3,.slice X4 g.bookings.length c4,.slice X5 g.closed.length c5,.int .i64 g.now,.slice X7 g.scans.length c7,.slice X8 g.skip.length c8,.int .i64 g.made],z1])∧Up w a∧ZcT a (AllS a) g (.slice X0 g.network.legs.length c0) (.slice X1 g.network.off.length c1) (.slice X3 g.orders.length c3) (.slice X4 g.bookings.length c4) (.slice X5 g.closed.length c5) (.slice X7 g.scans.length c7) (.slice X8 g.skip.length c8):=by
 refine (h (AllS w) (fun _=>none) w vs (fun _ _=>False) (ZlN w) hl ha).mono ?_
 rintro e a ⟨v,E,rfl,hk,_,_,_,hr⟩
 obtain ⟨u,rfl,hr1⟩:=Zn9 hr
 obtain ⟨X0,c0,X1,c1,X3,c3,X4,c4,X5,c5,X7,c7,X8,c8,rfl,ho⟩:=Zmz hk hr1
 exact ⟨X0,c0,X1,c1,X3,c3,X4,c4,X5,c5,X7,c7,X8,c8,rfl,Zgq hk,ho⟩
end Go.Proofs.YtmcdjilbkmhfoaaGreat
namespace Go.Proofs.YtmcdjilbkmhfoaaGreat
set_option maxRecDepth 10000
open Go.RowKit
set_option linter.unusedVariables false
set_option linter.unusedSimpArgs false
set_option linter.unusedSectionVars false
structure Zq2 (l:YLeg):Prop where
 start:0≤l.start∧l.start≤1439
 takes:1≤l.takes∧l.takes≤4320
 room:0≤l.room∧l.room≤1000000
theorem ZoS {l:YLeg} (h:ZjF l) (hv:ZaN l=some true):Zq2 l:=by
 obtain ⟨_,b1,s1⟩:=Zfq (s:=l.from_) h.1
 obtain ⟨_,b2,s2⟩:=Zfq (s:=l.to_) h.2
 unfold ZaN at hv
 rw [s1,s2] at hv
 simp only [Option.bind_some,ZcU] at hv
 cases b1 with
 | false=>simp at hv
 | true=>
 cases b2 with
 | false=>simp at hv
 | true=>
 simp only [cond_true] at hv
 cases h1:decide (l.from_=l.to_) with
 | true=>rw [h1] at hv; simp at hv
 | false=>
 rw [h1] at hv
 cases h2:decide (0≤l.start) && decide (l.start≤1439) with
 | false=>rw [h2] at hv; simp at hv
 | true=>
 rw [h2] at hv
 cases h3:decide (1≤l.takes) && decide (l.takes≤4320) with
 | false=>rw [h3] at hv; simp at hv
 | true=>
 rw [h3] at hv
 cases h4:decide (1≤l.days) && decide (l.days≤127) with
 | false=>rw [h4] at hv; simp at hv
 | true=>
 rw [h4] at hv
 cases h5:decide (0≤l.room) && decide (l.room≤1000000) with
 | false=>rw [h5] at hv; simp at hv
 | true=>
 simp only [Bool.and_eq_true,decide_eq_true_iff] at h2 h3 h5
 exact ⟨h2,h3,h5⟩
theorem Zqy {n:YNetwork} (h:ZZ n) (hn:Zb n=some true):∀ l∈n.legs,Zq2 l:=by
 have e:iterF (Zm n) NN 0=some (if allI (fun _ l=>(ZaN l).getD false) 0 n.legs=true then .inl () else .inr false):=by
  refine ZdH (A:=Unit) (fun _ i=>i) _ (fun a _=>a) id (fun a i l hl=>?_) (fun a=>?_) (by have:=h.legs; unfold NN; omega) ()
  ·have hlt:=(List.getElem?_eq_some_iff.1 hl).1
   have hcl:=h.legs
   have hg:getI n.legs (i:Int)=some l:=by rw [Zd]; exact hl
   have hi:w64 ((i:Int)+1)=((i+1:Nat):Int):=Zt hlt (by omega)
   obtain ⟨_,b,hb⟩:=Zg7 (h.leg l (List.mem_of_getElem? hl))
   unfold Zm
   simp only [decide_eq_true (show (i:Int)<n.legs.length by omega),cond_true,hg,Option.bind_some,hb,hi,Option.getD_some]
   cases b <;> rfl
  ·unfold Zm
   simp
 unfold Zb at hn
 rw [e] at hn
 by_cases ha:allI (fun _ l=>(ZaN l).getD false) 0 n.legs=true
 ·intro l hl
  obtain ⟨i,hi,rfl⟩:=List.getElem_of_mem hl
  have:=Zdr.1 ha i _ (List.getElem?_eq_getElem hi)
  obtain ⟨_,b,hb⟩:=Zg7 (h.leg _ (List.getElem_mem hi))
  rw [hb] at this
  simp at this
  subst this
  exact ZoS (h.leg _ (List.getElem_mem hi)) hb
 ·rw [if_neg ha] at hn
  simp at hn
theorem Zps {n:YNetwork} {t:YTrip} (ht:Zc3 n t=true):0≤t.day∧t.day≤60:=by
 unfold Zc3 Zw at ht
 rw [ZcU,ZcU] at ht
 simp only [Option.bind_some] at ht
 cases h1:decide (0≤t.leg) && decide (t.leg≤w64 ((n.legs.length:Int)-1)) with
 | false=>rw [h1] at ht; simp at ht
 | true=>
 rw [h1] at ht
 simp only [cond_true] at ht
 cases h2:decide (0≤t.day) && decide (t.day≤60) with
 | false=>rw [h2] at ht; simp at ht
 | true=>simpa only [Bool.and_eq_true,decide_eq_true_iff] using h2
def Zbp (n:YNetwork) (t:YTrip):Int:=(Zg n t).getD 0
def ZbH (n:YNetwork) (t:YTrip):Int:=(Ze n t).getD 0
theorem ZbF {n:YNetwork} (h:ZZ n) (hn:Zb n=some true) {t:YTrip} (ht:Zc3 n t=true):
 Zg n t=some (Zbp n t)∧Ze n t=some (ZbH n t)∧0≤Zbp n t∧Zbp n t<ZbH n t∧ZbH n t≤100000:=by
 obtain ⟨y,hy,hm⟩:=ZbE h ht
 obtain ⟨d0,d1⟩:=Zps ht
 have hl:=Zqy h hn y hm
 obtain ⟨a0,a1⟩:=hl.start
 obtain ⟨b0,b1⟩:=hl.takes
 have e1:Zg n t=some (t.day*1440+y.start):=by
  unfold Zg
  rw [hy]
  simp only [Option.bind_some]
  rw [Zc (n:=t.day*1440) (by omega),Zc (by omega)]
 have e2:Ze n t=some (t.day*1440+y.start+y.takes):=by
  unfold Ze
  rw [e1,hy]
  simp only [Option.bind_some]
  rw [Zc (by omega)]
 have s1:Zbp n t=t.day*1440+y.start:=by unfold Zbp; rw [e1]; rfl
 have s2:ZbH n t=t.day*1440+y.start+y.takes:=by unfold ZbH; rw [e2]; rfl
 refine ⟨by rw [e1,s1],by rw [e2,s2],by omega,by omega,by omega⟩
theorem ZkW {n:YNetwork} {o:YOrder} {now:Int} (h:Zl n o now=some true):(o.state=1∧¬ (o.place=o.to_))∨(o.state=2∧o.gone<o.way.length)∨(o.state=3∧o.gone=o.way.length∧0<o.gone):=by
 by_cases h1:o.state=1
 ·refine .inl ⟨h1,fun hp=>?_⟩
  unfold Zl at h
  rw [decide_eq_true h1] at h
  cases h0:decide (0<o.gone) with
  | false=>
   rw [h0] at h
   simp only [cond_false,cond_true] at h
   cases hq:decide (o.place=o.from_) with
   | false=>rw [hq] at h; cases h
   | true=>
    rw [hq,decide_eq_true (show o.from_=o.to_ from (of_decide_eq_true hq).symm.trans hp)] at h
    cases h
  | true=>
   rw [h0] at h
   simp only [cond_false,cond_true] at h
   cases hg:getI o.way (w64 (o.gone-1)) with
   | none=>rw [hg] at h; cases h
   | some y1=>
    rw [hg] at h
    simp only [Option.bind_some] at h
    cases hl:getI n.legs y1.leg with
    | none=>rw [hl] at h; cases h
    | some y2=>
     rw [hl] at h
     simp only [Option.bind_some] at h
     cases he:Ze n y1 with
     | none=>rw [he] at h; cases h
     | some v=>
      rw [he] at h
      simp only [Option.bind_some] at h
      cases hc:decide (now<v) with
      | true=>rw [hc] at h; cases h
      | false=>
       rw [hc] at h
       simp only [cond_false] at h
       cases hq:decide (o.place=y2.to_) with
       | false=>rw [hq] at h; cases h
       | true=>
        rw [hq,decide_eq_true (show y2.to_=o.to_ from (of_decide_eq_true hq).symm.trans hp)] at h
        cases h
 ·by_cases h2:o.state=2
  ·refine .inr (.inl ⟨h2,?_⟩)
   rcases Classical.em (o.gone<o.way.length) with hlt | hlt
   ·exact hlt
   exfalso
   unfold Zl at h
   rw [decide_eq_false h1,decide_eq_true h2,decide_eq_false hlt] at h
   cases h0:decide (0<o.gone) with
   | false=>
    rw [h0] at h
    simp only [cond_false,cond_true] at h
    revert h; cases decide (o.place=⟨#[]⟩) <;> cases decide (o.ended=0) <;> (intro h; cases h)
   | true=>
    rw [h0] at h
    simp only [cond_false,cond_true] at h
    cases hg:getI o.way (w64 (o.gone-1)) with
    | none=>rw [hg] at h; cases h
    | some y1=>
     rw [hg] at h
     simp only [Option.bind_some] at h
     cases hl:getI n.legs y1.leg with
     | none=>rw [hl] at h; cases h
     | some y2=>
      rw [hl] at h
      simp only [Option.bind_some] at h
      cases he:Ze n y1 with
      | none=>rw [he] at h; cases h
      | some v=>
       rw [he] at h
       simp only [Option.bind_some] at h
       revert h; cases decide (now<v) <;> cases decide (o.place=⟨#[]⟩) <;> cases decide (o.ended=0) <;> (intro h; cases h)
  ·by_cases h3:o.state=3
   ·refine .inr (.inr ⟨h3,?_⟩)
    rcases Classical.em (o.gone=o.way.length∧0<o.gone) with hlt | hlt
    ·exact hlt
    exfalso
    unfold Zl at h
    rw [decide_eq_false h1,decide_eq_false h2,decide_eq_true h3] at h
    cases h0:decide (0<o.gone) with
    | false=>
     rw [h0] at h
     simp only [cond_false,cond_true] at h
     revert h; cases decide (o.place=o.to_) <;> cases decide (o.from_=o.to_) <;> cases decide (o.gone=(o.way.length:Int)) <;> (intro h; cases h)
    | true=>
     have hne:¬ o.gone=(o.way.length:Int):=fun e=>hlt ⟨e,of_decide_eq_true h0⟩
     rw [h0,decide_eq_false hne] at h
     simp only [cond_false,cond_true] at h
     cases hg:getI o.way (w64 (o.gone-1)) with
     | none=>rw [hg] at h; cases h
     | some y1=>
      rw [hg] at h
      simp only [Option.bind_some] at h
      cases hl:getI n.legs y1.leg with
      | none=>rw [hl] at h; cases h
      | some y2=>
       rw [hl] at h
       simp only [Option.bind_some] at h
       cases he:Ze n y1 with
       | none=>rw [he] at h; cases h
       | some v=>
        rw [he] at h
        simp only [Option.bind_some] at h
        revert h; cases decide (now<v) <;> cases decide (o.place=o.to_) <;> cases decide (y2.to_=o.to_) <;> (intro h; cases h)
   ·exfalso
    unfold Zl at h
    rw [decide_eq_false h1,decide_eq_false h2,decide_eq_false h3] at h
    cases h0:decide (0<o.gone) with
    | false=>rw [h0] at h; cases h
    | true=>
     rw [h0] at h
     simp only [cond_false,cond_true] at h
     cases hg:getI o.way (w64 (o.gone-1)) with
     | none=>rw [hg] at h; cases h
     | some y1=>
      rw [hg] at h
      simp only [Option.bind_some] at h
      cases hl:getI n.legs y1.leg with
      | none=>rw [hl] at h; cases h
      | some y2=>
       rw [hl] at h
       simp only [Option.bind_some] at h
       cases he:Ze n y1 with
       | none=>rw [he] at h; cases h
       | some v=>
        rw [he] at h
        simp only [Option.bind_some] at h
        revert h; cases decide (now<v) <;> (intro h; cases h)
structure Zkk (w:YWorld) (i:Nat) (o:YOrder):Prop where
 gone:0≤o.gone∧o.gone≤o.way.length
 trip:∀ t∈o.way,Zc3 w.network t=true
 way:allI (wayC w ((i+1:Nat):Int) o) 0 o.way=true
 isWay:Zan w.network o.way o.from_ (endV w.network o) (w64 (o.at_+1))=some true
 st:Zl w.network o w.now=some true
 cases:(o.state=1∧¬ (o.place=o.to_))∨(o.state=2∧o.gone<o.way.length)∨(o.state=3∧o.gone=o.way.length∧0<o.gone)
 open_:((o.way.drop (Zh o).toNat).any (ZK w.closed))=false
 fromto:¬ o.from_=o.to_
 at_:0≤o.at_∧o.at_≤w.now
 due:0≤o.due∧o.due≤200000
theorem ZlO {w:YWorld} (hf:WFit w) {i:Nat} {o:YOrder} (hl:o.way.length≤1048576) (h:Zej w i o=true):Zkk w i o:=by
 unfold Zej at h
 simp only [Bool.and_eq_true,Bool.not_eq_true',decide_eq_true_iff,decide_eq_false_iff_not] at h
 obtain ⟨⟨⟨⟨⟨⟨⟨⟨⟨⟨⟨h1,h2⟩,h3⟩,h4⟩,h5⟩,h6⟩,h7⟩,h8⟩,h9⟩,h10⟩,h11⟩,h12⟩:=h
 have ht:∀ t∈o.way,Zc3 w.network t=true:=by
  intro t ht
  obtain ⟨j,hj,rfl⟩:=List.getElem_of_mem ht
  have:=Zdr.1 h9 j _ (List.getElem?_eq_getElem hj)
  unfold wayC at this
  simp only [Bool.and_eq_true] at this
  exact this.1.1
 obtain ⟨r,hr⟩:=Zgz hf.net hl o.from_ (endV w.network o) (w64 (o.at_+1))
 obtain ⟨b,hb⟩:=Zix (n:=w.network) h8 hl (fun t htt=>by obtain ⟨y,hy,_⟩:=ZbE hf.net (ht t htt); exact ⟨y,hy⟩) w.now
 rw [hr] at h10
 rw [hb] at h11
 simp only [Option.getD_some] at h10 h11
 subst h10 h11
 exact ⟨h8,ht,h9,hr,hb,ZkW hb,h12,h3,h6,h7⟩
section
variable {w:YWorld} (hf:WFit w) (hv:Zek w=true)
include hf hv
theorem Zfu {i:Nat} {o:YOrder} (ho:w.orders[i]?=some o):Zkk w i o:=ZlO hf (hf.way o (List.mem_of_getElem? ho)) (Zh2 hv ho)
theorem Zow:Zb w.network=some true:=(ZV (Zh1 hv)).1
theorem Zp4 {o:YOrder} {i:Nat} (ho:w.orders[i]?=some o) {k:Int} (h0:0≤k) (h1:k<o.way.length):∃ t,getI o.way k=some t∧Zc3 w.network t=true:=by
 have hlt:k.toNat<o.way.length:=by omega
 exact ⟨o.way[k.toNat],by unfold getI; rw [if_pos h0]; exact List.getElem?_eq_getElem hlt,(Zfu hf hv ho).trip _ (List.getElem_mem hlt)⟩
end
theorem ZkX {w:YWorld} (hf:WFit w) (hv:Zek w=true) {i:Nat} {o:YOrder} (ho:w.orders[i]?=some o):∃ b,Zag w o=some b∧Zbb w (i:Int)=some b∧(b=false→0<o.way.length):=by
 have hok:=Zfu hf hv ho
 have hl:=hf.way o (List.mem_of_getElem? ho)
 obtain ⟨c1,c2,c3⟩:=Zgw hok.gone hl
 have hg:getI w.orders (i:Int)=some o:=by rw [Zd]; exact ho
 unfold Zag Zbb
 rw [hg]
 simp only [Option.bind_some]
 rcases hok.cases with ⟨k1,k2⟩ | ⟨k1,k2⟩ | ⟨k1,k2,k3⟩
 ·have hcv:Zh o=o.gone:=by unfold Zh; rw [k1]; rfl
  have hge:=hok.gone
  have hh:Zae w.network o=some o.place:=by unfold Zae; rw [k1]; rfl
  rw [Znr,hh,c1,c3,hcv,if_neg (show ¬ (o.way.length:Int)<o.gone by omega),k1]
  simp only [Option.bind_some]
  by_cases hgl:o.gone=o.way.length
  ·refine ⟨true,?_,?_,fun h=>by cases h⟩
   ·rw [decide_eq_true hgl,decide_eq_false k2]; rfl
   ·rw [decide_eq_true hgl,decide_eq_false k2]; rfl
  ·exact ⟨false,by rw [decide_eq_false hgl]; rfl,by rw [decide_eq_false hgl]; rfl,fun _=>by omega⟩
 ·have hcv:Zh o=o.gone+1:=by unfold Zh; rw [k1]; rfl
  have hge:=hok.gone
  obtain ⟨t,htg,htb⟩:=Zp4 hf hv ho hok.gone.1 k2
  obtain ⟨y,hy,_⟩:=ZbE hf.net htb
  have hh:Zae w.network o=some y.to_:=by unfold Zae; rw [k1,htg]; simp [hy]
  rw [Znr,hh,c1,c3,hcv,if_neg (show ¬ (o.way.length:Int)<o.gone+1 by omega),k1]
  simp only [Option.bind_some]
  cases decide (o.gone+1=(o.way.length:Int)) with
  | true=>exact ⟨_,rfl,rfl,fun _=>by omega⟩
  | false=>exact ⟨_,rfl,rfl,fun _=>by omega⟩
 ·rw [k1]
  exact ⟨false,rfl,rfl,fun _=>by omega⟩
theorem Zf9 {σ ο:Type} {body:σ→Option (σ ⊕ ο)} {P:ο→Prop} (h:∀ s o,body s=some (.inr o)→P o):∀ (N:Nat) (s:σ) (o:ο),iterF body N s=some o→P o
 | 0,s,o,he=>by simp [iterF] at he
 | N+1,s,o,he=>by
  simp only [iterF] at he
  cases hb:body s with
  | none=>rw [hb] at he; cases he
  | some x=>
   rw [hb] at he
   cases x with
   | inl s'=>exact Zf9 h N s' o he
   | inr r=>obtain rfl:r=o:=by simpa [selim] using he
            exact h s r hb
theorem ZnO {n:YNetwork} (hn:Zb n=some true):(0≤n.change∧n.change≤240)∧n.legs.length≤20∧n.off.length≤10:=by
 unfold Zb at hn
 have p0:∀ (N:Nat) (s:Int) (o:Unit ⊕ Bool),iterF (Zm n) N s=some o→o=.inl ()∨o=.inr false:=by
  refine Zf9 fun s o h=>?_
  unfold Zm at h
  cases hd:decide (s<(n.legs.length:Int)) with
  | false=>rw [hd] at h; cases h; exact .inl rfl
  | true=>
   rw [hd,cond_true] at h
   cases hg:getI n.legs s with
   | none=>rw [hg] at h; cases h
   | some y=>
    rw [hg,Option.bind_some] at h
    cases hl:ZaN y with
    | none=>rw [hl] at h; cases h
    | some b=>rw [hl,Option.bind_some] at h; cases b <;> cases h; exact .inr rfl
 have p1:∀ (N:Nat) (s:Int) (o:Unit ⊕ Bool),iterF (Zn n) N s=some o→o=.inl ()∨o=.inr false:=by
  refine Zf9 fun s o h=>?_
  unfold Zn at h
  cases hd:decide (s<(n.off.length:Int)) with
  | false=>rw [hd] at h; cases h; exact .inl rfl
  | true=>
   rw [hd,cond_true] at h
   cases hg:getI n.off s with
   | none=>rw [hg] at h; cases h
   | some y=>
    rw [hg,Option.bind_some,ZcU,Option.bind_some] at h
    cases hb:decide (0≤y) && decide (y≤60) with
    | false=>rw [hb] at h; cases h; exact .inr rfl
    | true=>
     rw [hb] at h
     cases hs:decide (0<s) with
     | false=>rw [hs] at h; cases h
     | true=>
      rw [hs] at h
      simp only [Bool.not_true,cond_false,cond_true] at h
      cases hg2:getI n.off (w64 (s-1)) with
      | none=>rw [hg2] at h; cases h
      | some z=>
       rw [hg2] at h
       simp only [Option.bind_some] at h
       cases hz:decide (y≤z) with
       | false=>rw [hz] at h; cases h
       | true=>rw [hz] at h; cases h; exact .inr rfl
 cases h0:iterF (Zm n) NN 0 with
 | none=>rw [h0] at hn; cases hn
 | some r0=>
 rw [h0] at hn
 rcases p0 _ _ _ h0 with rfl | rfl
 ·simp only [Option.bind_some,selim] at hn
  cases h1:iterF (Zn n) NN 0 with
  | none=>rw [h1] at hn; cases hn
  | some r1=>
  rw [h1] at hn
  rcases p1 _ _ _ h1 with rfl | rfl
  ·simp only [Option.bind_some,selim,ZcU] at hn
   cases h2:decide ((n.legs.length:Int)≤20) with
   | false=>rw [h2] at hn; cases hn
   | true=>
   cases h3:decide ((n.off.length:Int)≤10) with
   | false=>rw [h2,h3] at hn; cases hn
   | true=>
   rw [h2,h3] at hn
   simp only [cond_true] at hn
   have:=Option.some.inj hn
   have h2:=of_decide_eq_true h2
   have h3:=of_decide_eq_true h3
   exact ⟨by simpa only [Bool.and_eq_true,decide_eq_true_iff] using this,by omega,by omega⟩
  ·cases hn
 ·cases hn
theorem Zdb {n:YNetwork} (hn:Zb n=some true):0≤n.change∧n.change≤240:=(ZnO hn).1
theorem Zfs {n:YNetwork} (hn:Zb n=some true):n.legs.length≤20:=(ZnO hn).2.1
def Zd1 (n:YNetwork) (t:YTrip):ByteArray:=((getI n.legs t.leg).map (·.from_)).getD ⟨#[]⟩
def ZcD (n:YNetwork):ByteArray→Int→List YTrip→Prop
 | _,_,[]=>True
 | p,a,t::ts=>Zc3 n t=true∧Zd1 n t=p∧a≤Zbp n t∧ZcD n (ZaS n t) (ZbH n t+n.change) ts
theorem ZlB {n:YNetwork} (h:ZZ n) (hn:Zb n=some true) (t:YTrip):ZM n t=some (Zc3 n t):=by
 rw [← (ZeL h t).1,Zg8 h hn,ZgF h]
theorem ZhC {n:YNetwork} (hf:ZZ n) (hn:Zb n=some true) {way:List YTrip} (hl:way.length≤1048576) {a b:ByteArray} {t:Int} (h:Zan n way a b t=some true):ZcD n a t way:=by
 obtain ⟨ch0,ch1⟩:=Zdb hn
 have hpl:=Zbk n
 have hll:=hf.legs
 let F:Nat→ByteArray × Int→YTrip→Option ((ByteArray × Int) ⊕ (ByteArray ⊕ Bool)):=fun _ p t=>
  some (if Zc3 n t=true∧Zd1 n t=p.1∧p.2≤Zbp n t then .inl (ZaS n t,ZbH n t+n.change) else .inr (.inr false))
 have e1:iterF (ZE n way b) NN (a,t,0)=runL F (fun p=>some (.inl p.1)) 0 way (a,t):=by
  refine Zf8 (A:=ByteArray × Int) (fun p i=>(p.1,p.2,i)) F (fun p=>some (.inl p.1)) (fun p i x hx=>?_) (fun p=>?_) (by unfold NN; omega) (a,t)
  ·have hlt:=(List.getElem?_eq_some_iff.1 hx).1
   have hg:getI way (i:Int)=some x:=by rw [Zd]; exact hx
   have hi:w64 ((i:Int)+1)=((i+1:Nat):Int):=Zt hlt (by omega)
   unfold ZE
   simp only [decide_eq_true (show (i:Int)<way.length by omega),cond_true,hg,Option.bind_some,hi,ZlB hf hn,F]
   cases ht:Zc3 n x with
   | false=>simp [selim]
   | true=>
    obtain ⟨y,hy,_⟩:=ZbE hf ht
    obtain ⟨t1,t2,t3,t4,t5⟩:=ZbF hf hn ht
    have f1:Zd1 n x=y.from_:=by unfold Zd1; rw [hy]; rfl
    have f2:ZaS n x=y.to_:=by unfold ZaS; rw [hy]; rfl
    have hw:w64 (ZbH n x+n.change)=ZbH n x+n.change:=Zc (by omega)
    simp only [hy,Option.bind_some,t1,t2,f1,f2,hw,Bool.not_true,cond_false,true_and]
    by_cases h1:y.from_=p.1
    ·by_cases h2:Zbp n x<p.2
     ·rw [decide_eq_true h1,decide_eq_true h2,if_neg (show ¬ (y.from_=p.1∧p.2≤Zbp n x) by omega)]; rfl
     ·rw [decide_eq_true h1,decide_eq_false h2,if_pos ⟨h1,by omega⟩]; rfl
    ·rw [decide_eq_false h1,if_neg (fun h=>h1 h.1)]; rfl
  ·unfold ZE
   simp
 have key:∀ (ts:List YTrip) (i:Nat) (p:ByteArray × Int) (r:ByteArray),runL F (fun p=>some (.inl p.1)) i ts p=some (.inl r)→ZcD n p.1 p.2 ts:=by
  intro ts
  induction ts with
  | nil=>intro i p r h; trivial
  | cons x ts ih=>
   intro i p r h
   simp only [runL,F] at h
   by_cases hc:Zc3 n x=true∧Zd1 n x=p.1∧p.2≤Zbp n x
   ·rw [if_pos hc] at h
    exact ⟨hc.1,hc.2.1,hc.2.2,ih (i+1) (ZaS n x,ZbH n x+n.change) r h⟩
   ·rw [if_neg hc] at h; cases h
 unfold Zan at h
 rw [(ZaL hf).2,hn] at h
 simp only [Option.bind_some,Zet (show (Za n).length≤4194304 by omega),e1] at h
 cases h1:decide (idxV (Za n) a<0) with
 | true=>rw [h1] at h; cases h
 | false=>
 cases h2:decide (idxV (Za n) b<0) with
 | true=>rw [h1,h2] at h; cases h
 | false=>
 rw [h1,h2] at h
 simp only [Bool.not_true,cond_false] at h
 cases hr:runL F (fun p=>some (.inl p.1)) 0 way (a,t) with
 | none=>rw [hr] at h; cases h
 | some r=>
  cases r with
  | inl r=>exact key way 0 (a,t) r hr
  | inr v=>
   exfalso
   have:∀ (ts:List YTrip) (i:Nat) (p:ByteArray × Int) (v:Bool),runL F (fun p=>some (.inl p.1)) i ts p=some (.inr v)→v=false:=by
    intro ts
    induction ts with
    | nil=>intro i p v h; cases h
    | cons x ts ih=>
     intro i p v h
     simp only [runL,F] at h
     by_cases hc:Zc3 n x=true∧Zd1 n x=p.1∧p.2≤Zbp n x
     ·rw [if_pos hc] at h; exact ih _ _ _ h
     ·rw [if_neg hc] at h; cases h; rfl
   have hv:=this _ _ _ _ hr
   subst hv
   rw [hr] at h
   cases h
theorem ZiE {n:YNetwork}:∀ {ts:List YTrip} {p:ByteArray} {a:Int} {i:Nat} {t:YTrip},ZcD n p a ts→ts[i]?=some t→Zc3 n t=true∧∀ t',ts[i+1]?=some t'→ZbH n t+n.change≤Zbp n t'∧Zd1 n t'=ZaS n t
 | [],_,_,_,_,_,h=>by simp at h
 | x::ts,p,a,0,t,hc,h=>by
  obtain rfl:x=t:=by simpa using h
  refine ⟨hc.1,fun t' h'=>?_⟩
  cases ts with
  | nil=>simp at h'
  | cons y ts=>obtain rfl:y=t':=by simpa using h'
               exact ⟨hc.2.2.2.2.2.1,hc.2.2.2.2.1⟩
 | x::ts,p,a,i+1,t,hc,h=>by
  have h':ts[i]?=some t:=by simpa using h
  have:=ZiE hc.2.2.2 h'
  simpa using this
def Zhy (n:YNetwork) (o:YOrder):ByteArray:=if 0<o.gone then ((o.way[(o.gone-1).toNat]?).map (ZaS n)).getD ⟨#[]⟩ else o.from_
structure Zhg (n:YNetwork) (o:YOrder) (now:Int):Prop where
 past:∀ t,0<o.gone→o.way[(o.gone-1).toNat]?=some t→ZbH n t≤now
 cases:(o.state=1∧o.place=Zhy n o∧¬ Zhy n o=o.to_∧o.ended=0∧∀ t,o.way[o.gone.toNat]?=some t→now<Zbp n t)∨
  (o.state=2∧o.place=⟨#[]⟩∧o.ended=0∧∃ t,o.way[o.gone.toNat]?=some t∧Zbp n t≤now∧now<ZbH n t)∨
  (o.state=3∧o.place=o.to_∧Zhy n o=o.to_∧o.gone=o.way.length∧0<o.gone∧∀ t,o.way[(o.gone-1).toNat]?=some t→o.ended=ZbH n t)
theorem ZfW {c:Prop} [Decidable c] {a b:Option Bool}:cond (decide c) a b=some true↔(c∧a=some true)∨(¬ c∧b=some true):=by
 by_cases h:c <;> simp [h]
theorem Zfk {c:Prop} [Decidable c] {a b:Option Bool}:cond (!decide c) a b=some true↔(¬ c∧a=some true)∨(c∧b=some true):=by
 by_cases h:c <;> simp [h]
theorem Zh0 {n:YNetwork} (hf:ZZ n) (hn:Zb n=some true) {o:YOrder} (hg:0≤o.gone∧o.gone≤o.way.length) (hl:o.way.length≤1048576) (ht:∀ t∈o.way,Zc3 n t=true) (now:Int):Zl n o now=some true↔Zhg n o now:=by
 have hw1:w64 (o.gone-1)=o.gone-1:=Zc (by omega)
 have nx:(∃ t,o.gone<o.way.length∧getI o.way o.gone=some t∧o.way[o.gone.toNat]?=some t∧Zg n t=some (Zbp n t)∧Ze n t=some (ZbH n t))∨(o.gone=o.way.length∧o.way[o.gone.toNat]?=none):=by
  by_cases h:o.gone<o.way.length
  ·have hlt:o.gone.toNat<o.way.length:=by omega
   obtain ⟨t1,t2,_⟩:=ZbF hf hn (ht _ (List.getElem_mem hlt))
   exact .inl ⟨o.way[o.gone.toNat],h,by unfold getI; rw [if_pos hg.1]; exact List.getElem?_eq_getElem hlt,List.getElem?_eq_getElem hlt,t1,t2⟩
  ·exact .inr ⟨by omega,List.getElem?_eq_none (by omega)⟩
 unfold Zl
 rw [hw1]
 by_cases h0:0<o.gone
 ·have hlt:(o.gone-1).toNat<o.way.length:=by omega
  obtain ⟨p,hp,hp1⟩:∃ p,getI o.way (o.gone-1)=some p∧o.way[(o.gone-1).toNat]?=some p:=⟨o.way[(o.gone-1).toNat],by unfold getI; rw [if_pos (by omega)]; exact List.getElem?_eq_getElem hlt,List.getElem?_eq_getElem hlt⟩
  have hpt:=ht p (List.mem_of_getElem? hp1)
  obtain ⟨y,hy,_⟩:=ZbE hf hpt
  obtain ⟨t1,t2,t3,t4,t5⟩:=ZbF hf hn hpt
  have hh:Zhy n o=y.to_:=by unfold Zhy; rw [if_pos h0,hp1]; simp [ZaS,hy]
  rcases nx with ⟨t,n1,n2,n3,n4,n5⟩ | ⟨n1,n3⟩
  ·have ng:¬ o.gone=o.way.length:=by omega
   simp only [decide_eq_true h0,cond_true,hp,hy,t2,n2,n4,n5,Option.bind_some,ZfW,Zfk,Option.some.injEq,decide_eq_true_iff]
   constructor
   ·intro h
    refine ⟨fun q _ hq=>?_,?_⟩
    ·rw [hp1] at hq; obtain rfl:=Option.some.inj hq
     rcases h with ⟨_,h⟩ | ⟨h,_⟩
     ·simp at h
     ·omega
    ·rw [hh]; simp only [n3,hp1,Option.some.injEq,forall_eq',exists_eq_left']
     by_cases s1:o.state=1 <;> by_cases s2:o.state=2 <;> by_cases s3:o.state=3 <;> simp_all
   ·rintro ⟨k1,k2⟩
    have k1':=k1 p h0 hp1
    rw [hh] at k2; simp only [n3,hp1,Option.some.injEq,forall_eq',exists_eq_left'] at k2
    have:¬ now<ZbH n p:=by omega
    rcases k2 with k | k | k <;> simp_all
  ·simp only [decide_eq_true h0,cond_true,hp,hy,t2,Option.bind_some,ZfW,Zfk,Option.some.injEq,decide_eq_true_iff]
   have ng:¬ o.gone<o.way.length:=by omega
   constructor
   ·intro h
    refine ⟨fun q _ hq=>?_,?_⟩
    ·rw [hp1] at hq; obtain rfl:=Option.some.inj hq
     rcases h with ⟨_,h⟩ | ⟨h,_⟩
     ·simp at h
     ·omega
    ·rw [hh]; simp only [n3,hp1,Option.some.injEq,forall_eq',exists_eq_left',reduceCtorEq,false_and,exists_false,false_implies,implies_true]
     by_cases s1:o.state=1 <;> by_cases s2:o.state=2 <;> by_cases s3:o.state=3 <;> simp_all
   ·rintro ⟨k1,k2⟩
    have k1':=k1 p h0 hp1
    rw [hh] at k2; simp only [n3,hp1,Option.some.injEq,forall_eq',exists_eq_left',reduceCtorEq,false_and,exists_false,false_implies,implies_true] at k2
    have:¬ now<ZbH n p:=by omega
    rcases k2 with k | k | k <;> simp_all
 ·have hh:Zhy n o=o.from_:=by unfold Zhy; rw [if_neg h0]
  rcases nx with ⟨t,n1,n2,n3,n4,n5⟩ | ⟨n1,n3⟩
  ·have ng:¬ o.gone=o.way.length:=by omega
   simp only [decide_eq_false h0,cond_false,n2,n4,n5,Option.bind_some,ZfW,Zfk,Option.some.injEq,decide_eq_true_iff]
   constructor
   ·intro h
    refine ⟨fun q hq=>absurd hq h0,?_⟩
    rw [hh]; simp only [n3,Option.some.injEq,forall_eq',exists_eq_left']
    by_cases s1:o.state=1 <;> by_cases s2:o.state=2 <;> by_cases s3:o.state=3 <;> simp_all
   ·rintro ⟨k1,k2⟩
    rw [hh] at k2; simp only [n3,Option.some.injEq,forall_eq',exists_eq_left'] at k2
    rcases k2 with k | k | k <;> simp_all
  ·have ng:¬ o.gone<o.way.length:=by omega
   simp only [decide_eq_false h0,cond_false,Option.bind_some,ZfW,Zfk,Option.some.injEq,decide_eq_true_iff]
   constructor
   ·intro h
    refine ⟨fun q hq=>absurd hq h0,?_⟩
    rw [hh]; simp only [n3,reduceCtorEq,false_and,exists_false,false_implies,implies_true]
    by_cases s1:o.state=1 <;> by_cases s2:o.state=2 <;> by_cases s3:o.state=3 <;> simp_all
   ·rintro ⟨k1,k2⟩
    rw [hh] at k2; simp only [n3,reduceCtorEq,false_and,exists_false,false_implies,implies_true] at k2
    rcases k2 with k | k | k
    ·simp_all
    ·simp_all
    ·exact absurd k.2.2.2.2.1 h0
def ZpQ (n:YNetwork) (o:YOrder):Option Int:=(o.way[o.gone.toNat]?).map fun t=>if o.state=2 then ZbH n t else Zbp n t
structure Zoz (n:YNetwork) (o:YOrder):Prop where
 gone:0≤o.gone∧o.gone≤o.way.length
 trip:∀ t∈o.way,0≤Zbp n t∧Zbp n t<ZbH n t∧ZbH n t≤100000
 next:∀ (i:Nat) t t',o.way[i]?=some t→o.way[i+1]?=some t'→ZbH n t≤Zbp n t'
 last:∀ (i:Nat) t,o.way[i]?=some t→ZaS n t=o.to_→i+1=o.way.length
structure Ze5 (o o':YOrder):Prop where
 from_:o'.from_=o.from_
 to_:o'.to_=o.to_
 service:o'.service=o.service
 weight:o'.weight=o.weight
 at_:o'.at_=o.at_
 due:o'.due=o.due
 way:o'.way=o.way
theorem Ze5.refl (o:YOrder):Ze5 o o:=⟨rfl,rfl,rfl,rfl,rfl,rfl,rfl⟩
theorem Ze5.trans {a b c:YOrder} (h:Ze5 a b) (k:Ze5 b c):Ze5 a c:=⟨k.1.trans h.1,k.2.trans h.2,k.3.trans h.3,k.4.trans h.4,k.5.trans h.5,k.6.trans h.6,k.7.trans h.7⟩
theorem Zoz.same {n:YNetwork} {o o':YOrder} (h:Zoz n o) (k:Ze5 o o') (hg:0≤o'.gone∧o'.gone≤o.way.length):Zoz n o':=
 ⟨by rw [k.way]; exact hg,by rw [k.way]; exact h.trip,by rw [k.way]; exact h.next,by rw [k.way,k.to_]; exact h.last⟩
structure Zsm (n:YNetwork) (o:YOrder) (at_:Int):Prop where
 ok:Zhg n o at_
 gone:0≤o.gone∧o.gone≤o.way.length
 next:∀ e,ZpQ n o=some e→at_<e
def ZhM (skip:List Int) (p:List YScan × Int) (s:YScan):List YScan × Int:=
 let m:=if p.2<1000000000 then p.2+1 else p.2
 (if (skip.any fun y=>decide (y=m))=false∧p.1.length<200 then p.1++[s] else p.1,m)
structure WOk (w:YWorld):Prop where
 fit:WFit w
 ok:Zek w=true
theorem WOk.net {w:YWorld} (h:WOk w):Zb w.network=some true:=Zow h.fit h.ok
theorem WOk.way {w:YWorld} (h:WOk w) {i:Nat} {o:YOrder} (ho:w.orders[i]?=some o):Zoz w.network o:=by
 have hok:=Zfu h.fit h.ok ho
 have hl:=h.fit.way o (List.mem_of_getElem? ho)
 have hch:=ZhC h.fit.net h.net hl hok.isWay
 refine ⟨hok.gone,fun t ht=>?_,fun i t t' h1 h2=>?_,fun i t h1 h2=>?_⟩
 ·obtain ⟨_,_,a,b,c⟩:=ZbF h.fit.net h.net (hok.trip t ht)
  exact ⟨a,b,c⟩
 ·have:=((ZiE hch h1).2 t' h2).1
  have:=(Zdb h.net).1
  omega
 ·have hw:=Zdr.1 hok.way i t h1
  unfold wayC at hw
  simp only [Nat.zero_add,Bool.and_eq_true,Bool.not_eq_true',Bool.and_eq_false_imp,decide_eq_true_iff,decide_eq_false_iff_not] at hw
  have h3:=hw.2 h2
  have:=(List.getElem?_eq_some_iff.1 h1).1
  omega
theorem WOk.state {w:YWorld} (h:WOk w) {i:Nat} {o:YOrder} (ho:w.orders[i]?=some o):Zhg w.network o w.now:=by
 have hok:=Zfu h.fit h.ok ho
 exact (Zh0 h.fit.net h.net hok.gone (h.fit.way o (List.mem_of_getElem? ho)) hok.trip _).1 hok.st
theorem WOk.parts {w:YWorld} (h:WOk w):(0≤w.now∧w.now≤100000)∧w.orders.length≤30∧w.closed.length≤20∧w.scans.length≤200∧w.skip.length≤50∧(w.scans.length≤w.made∧w.made≤1000000000)∧w.bookings.length≤120:=by
 have hb:=ZV (Zh1 h.ok)
 have hv:=h.ok
 unfold Zek at hv
 simp only [Bool.and_eq_true,Bool.not_eq_true',decide_eq_true_iff,decide_eq_false_iff_not] at hv
 obtain ⟨⟨⟨⟨⟨⟨⟨⟨⟨⟨h1,h2⟩,h3⟩,h4⟩,h5⟩,h6⟩,h7⟩,h8⟩,h9⟩,h10⟩,h11⟩:=hv
 exact ⟨h2,by omega,by omega,by omega,by omega,h7,hb.2⟩
structure ZrU (n:YNetwork) (at_:Int) (p:List YScan × Int):Prop where
 good:∀ s∈p.1,Zai n s=some true∧s.at_≤at_
 len:p.1.length≤200
 made:p.1.length≤p.2∧p.2≤1000000000
section
variable {w:YWorld} (h:WOk w) {at_:Int} (hn:w.now≤at_) (hm:at_≤100000) (he:∀ o∈w.orders,∀ e,ZpQ w.network o=some e→at_≤e)
include h hn hm he
end
structure Zmb (w w':YWorld):Prop where
 network:w'.network=w.network
 bookings:w'.bookings=w.bookings
 closed:w'.closed=w.closed
 skip:w'.skip=w.skip
 len:w'.orders.length=w.orders.length
 ord:∀ (i:Nat) (o o':YOrder),w.orders[i]?=some o→w'.orders[i]?=some o'→Ze5 o o'
theorem Zmb.refl (w:YWorld):Zmb w w:=⟨rfl,rfl,rfl,rfl,rfl,fun i o o' h h'=>by rw [h] at h'; obtain rfl:=Option.some.inj h'; exact .refl o⟩
theorem Zmb.trans {a b c:YWorld} (h:Zmb a b) (k:Zmb b c):Zmb a c:=by
 refine ⟨k.network.trans h.network,k.bookings.trans h.bookings,k.closed.trans h.closed,k.skip.trans h.skip,k.len.trans h.len,fun i o o' h1 h2=>?_⟩
 have hlt:=(List.getElem?_eq_some_iff.1 h1).1
 have hb:b.orders[i]?=some (b.orders[i]'(by rw [h.len]; exact hlt)):=List.getElem?_eq_getElem _
 exact (h.ord i o _ h1 hb).trans (k.ord i _ o' hb h2)
def Zgs (w:YWorld) (s:YScan):YWorld:={ w with scans:=(ZhM w.skip (w.scans,w.made) s).1,made:=(ZhM w.skip (w.scans,w.made) s).2 }
structure Zgr (w:YWorld):Prop where
 skip:w.skip.length≤1048576
 len:w.scans.length≤200
 made:0≤w.made∧w.made≤1000000000
theorem Zdh {a b c:Nat} (h:a+b≤1048576) (hc:c≤1024):chk (appOk (a+b) c)=some ():=by
 refine Zfw ?_
 unfold appOk
 refine decide_eq_true ⟨by omega,?_⟩
 have:(a+b)*c≤1048576*1024:=Nat.mul_le_mul h hc
 omega
theorem Zqo {α:Type} {c:Prop} [Decidable c] {l:List α} {s:α} (h:c→l.length<200) (h2:l.length≤200):(if c then l++[s] else l).length≤200:=by
 by_cases hc:c
 ·have:=h hc; rw [if_pos hc]; simp; omega
 ·rw [if_neg hc]; exact h2
theorem Zkl {w:YWorld} (h:Zgr w) (s:YScan):Zgr (Zgs w s):=by
 obtain ⟨h1,h2,h3⟩:=h
 unfold Zgs ZhM
 refine ⟨h1,?_,?_⟩
 ·exact Zqo (fun h=>h.2) h2
 ·simp only
  split <;> omega
def ZgY (w:YWorld) (l:List YScan):YWorld:=l.foldl Zgs w
theorem ZfI:∀ (l:List YScan) (w:YWorld),ZgY w l={ w with scans:=(l.foldl (ZhM w.skip) (w.scans,w.made)).1,made:=(l.foldl (ZhM w.skip) (w.scans,w.made)).2 }
 | [],w=>rfl
 | s::l,w=>by
  show ZgY (Zgs w s) l=_
  rw [ZfI l (Zgs w s)]
  rfl
def Zpm (f:YOrder→YOrder) (g:Nat→YOrder→List YScan) (i:Nat) (o:YOrder) (w:YWorld):YWorld:=ZgY { w with orders:=w.orders.set i (f o) } (g i o)
theorem Zpn (f:YOrder→YOrder) (g:Nat→YOrder→List YScan) (i:Nat) (o:YOrder) (w:YWorld):Zpm f g i o w={ w with orders:=w.orders.set i (f o),scans:=((g i o).foldl (ZhM w.skip) (w.scans,w.made)).1,made:=((g i o).foldl (ZhM w.skip) (w.scans,w.made)).2 }:=by
 unfold Zpm; rw [ZfI]
structure Ziy (n:YNetwork) (k:Nat) (w:YWorld):Prop where
 net:w.network=n
 scans:Zgr w
 orders:w.orders.length≤1048576
theorem ZgG:∀ (l:List YScan) (w:YWorld),Zgr w→Zgr (ZgY w l)
 | [],w,h=>h
 | s::l,w,h=>ZgG l _ (Zkl h s)
theorem Ziy.step {n:YNetwork} {k:Nat} {w:YWorld} (h:Ziy n k w) (f:YOrder→YOrder) (g:Nat→YOrder→List YScan) (i:Nat) (o:YOrder):Ziy n k (Zpm f g i o w):=by
 have hs:Zgr { w with orders:=w.orders.set i (f o) }:=⟨h.scans.skip,h.scans.len,h.scans.made⟩
 have h1:=ZgG (g i o) _ hs
 rw [Zpn]
 unfold Zpm at *
 rw [ZfI] at h1
 exact ⟨h.net,h1,by simp only [List.length_set]; exact h.orders⟩
structure Zq3 (n:YNetwork) (o:YOrder):Prop where
 gone:0≤o.gone∧o.gone≤o.way.length
 len:o.way.length≤1048576
 trip:∀ t∈o.way,Zc3 n t=true
 rides:o.state=2→o.gone<o.way.length
section
variable {n:YNetwork} (hf:ZZ n) (hn:Zb n=some true)
include hf hn
end
structure ZmM (w:YWorld):Prop where
 net:ZZ w.network
 isNet:Zb w.network=some true
 inv:Ziy w.network 0 w
 ord:∀ o∈w.orders,Zq3 w.network o
set_option maxHeartbeats 16000000
def ZaM (n:YNetwork):Option YNetwork:=
 (chk (appOk ((([]:List YLeg):List YLeg).length+(n.legs:List YLeg).length) 64)).bind fun _=>
 (chk (appOk ((([]:List Int):List Int).length+(n.off:List Int).length) 8)).bind fun _=>
 some (⟨((([]:List YLeg):List YLeg)++n.legs),((([]:List Int):List Int)++n.off),n.change⟩:YNetwork)
instance (n:YNetwork):CT Tryz.prog (ZaM n):=⟨149,[.ag (cNetwork n)],[],fun r=>.ag [.ms 0,.ms 1,vi r.change],fun r=>[some ⟨.of 67,6,r.legs.map cLeg⟩,some ⟨.of 3,1,r.off.map cInt⟩],fun H=>by replace H:=H0 H; unfold ZaM at H; exact callM_of Tryz.func149 rfl Tryz.ntmps149 Tryz.results149 fun Q hQ hQn=>wk3⟩
def Zab (l:List YBooking):Option (List YBooking):=
 (chk (appOk ((([]:List YBooking):List YBooking).length+(l:List YBooking).length) 32)).bind fun _=>
 some ((([]:List YBooking):List YBooking)++l)
instance (l:List YBooking):CT Tryz.prog (Zab l):=⟨169,[.sl (l.map cBooking)],[],fun r=>.ms 0,fun r=>[some ⟨.of 135,4,r.map cBooking⟩],fun H=>by replace H:=H0 H; unfold Zab at H; exact callM_of Tryz.func169 rfl Tryz.ntmps169 Tryz.results169 fun Q hQ hQn=>wk3⟩
def ZA (l:List YTrip):Option (List YTrip):=
 (chk (appOk ((([]:List YTrip):List YTrip).length+(l:List YTrip).length) 16)).bind fun _=>
 some ((([]:List YTrip):List YTrip)++l)
instance (l:List YTrip):CT Tryz.prog (ZA l):=⟨137,[.sl (l.map cTrip)],[],fun r=>.ms 0,fun r=>[some ⟨.of 55,2,r.map cTrip⟩],fun H=>by replace H:=H0 H; unfold ZA at H; exact callM_of Tryz.func137 rfl Tryz.ntmps137 Tryz.results137 fun Q hQ hQn=>wk3⟩
def Zaw (w:YWorld) (y1:YNetwork) (y2:(List YBooking)) (y3:(List YTrip)) (s0:Int × (List YOrder)):Option ((Int × (List YOrder)) ⊕ (List YOrder)):=
 cond (decide (s0.1<(w.orders.length:Int)))
 ((getI w.orders s0.1).bind fun y4=>
 (ZA y4.way).bind fun y5=>
 (frz (.un::.un::.be 0 0 0::.be 1 0 0::.un::.be 9 0 0::(U 23 (.sl (w.orders.map cOrder)::vi (w.orders.length:Int)::vi s0.1::(U 15 [])))) [some ⟨.of 41,10,[[.v (.slice none 0 0),.v (.slice none 0 0),vi 0,.v (.slice none 0 0),.v (.slice none 0 0),.v (.slice none 0 0),vi 0,.v (.slice none 0 0),.v (.slice none 0 0),vi 0]]⟩,some ⟨.of 41,10,[[.ms 2,.ms 3,vi y1.change,.ms 4,.ms 5,.ms 6,vi w.now,.ms 7,.ms 8,vi w.made]]⟩,some ⟨.of 67,6,y1.legs.map cLeg⟩,some ⟨.of 3,1,y1.off.map cInt⟩,some ⟨.of 62,11,s0.2.map cOrder⟩,some ⟨.of 135,4,y2.map cBooking⟩,some ⟨.of 55,2,y3.map cTrip⟩,some ⟨.of 130,6,((([]:List YScan):List YScan)++w.scans).map cScan⟩,some ⟨.of 3,1,((([]:List Int):List Int)++w.skip).map cInt⟩,some ⟨.of 62,11,[[vs y4.from_,vs y4.to_,vi y4.service,vi y4.weight,vi y4.at_,vi y4.due,.sl (y5.map cTrip),vi y4.gone,vi y4.state,vs y4.place,vi y4.ended]]⟩]).bind fun _=>
 (chk (appOk ((s0.2:List YOrder).length+([(⟨y4.from_,y4.to_,y4.service,y4.weight,y4.at_,y4.due,y5,y4.gone,y4.state,y4.place,y4.ended⟩:YOrder)]:List YOrder).length) 128)).bind fun _=>
 some (.inl ((w64 (s0.1+1)),((s0.2:List YOrder)++[(⟨y4.from_,y4.to_,y4.service,y4.weight,y4.at_,y4.due,y5,y4.gone,y4.state,y4.place,y4.ended⟩:YOrder)]))))
 (some (.inr s0.2))
instance (w:YWorld) (y1:YNetwork) (y2:(List YBooking)) (y3:(List YTrip)):LoopE (Zaw w y1 y2 y3):=⟨fun s0=>(.un::.un::.be 0 0 0::.be 1 0 0::(U 25 (.sl (w.orders.map cOrder)::vi (w.orders.length:Int)::vi s0.1::(U 15 [])))),fun s0=>[some ⟨.of 41,10,[[.v (.slice none 0 0),.v (.slice none 0 0),vi 0,.v (.slice none 0 0),.v (.slice none 0 0),.v (.slice none 0 0),vi 0,.v (.slice none 0 0),.v (.slice none 0 0),vi 0]]⟩,some ⟨.of 41,10,[[.ms 2,.ms 3,vi y1.change,.ms 4,.ms 5,.ms 6,vi w.now,.ms 7,.ms 8,vi w.made]]⟩,some ⟨.of 67,6,y1.legs.map cLeg⟩,some ⟨.of 3,1,y1.off.map cInt⟩,some ⟨.of 62,11,s0.2.map cOrder⟩,some ⟨.of 135,4,y2.map cBooking⟩,some ⟨.of 55,2,y3.map cTrip⟩,some ⟨.of 130,6,((([]:List YScan):List YScan)++w.scans).map cScan⟩,some ⟨.of 3,1,((([]:List Int):List Int)++w.skip).map cInt⟩]⟩
def ZbT (w:YWorld):Option YWorld:=
 (ZaM w.network).bind fun y1=>
 (Zab w.bookings).bind fun y2=>
 (ZA w.closed).bind fun y3=>
 (chk (appOk ((([]:List YScan):List YScan).length+(w.scans:List YScan).length) 56)).bind fun _=>
 (chk (appOk ((([]:List Int):List Int).length+(w.skip:List Int).length) 8)).bind fun _=>
 (iterF (Zaw w y1 y2 y3) NN (0,[])).bind (fun o0=>
 some (⟨y1,o0,y2,y3,w.now,((([]:List YScan):List YScan)++w.scans),((([]:List Int):List Int)++w.skip),w.made⟩:YWorld))
instance (w:YWorld):CT Tryz.prog (ZbT w):=⟨80,[.ag (cWorld w)],[],fun r=>.ag [.ms 0,.ms 1,vi r.network.change,.ms 2,.ms 3,.ms 4,vi r.now,.ms 5,.ms 6,vi r.made],fun r=>[some ⟨.of 67,6,r.network.legs.map cLeg⟩,some ⟨.of 3,1,r.network.off.map cInt⟩,some ⟨.of 62,11,r.orders.map cOrder⟩,some ⟨.of 135,4,r.bookings.map cBooking⟩,some ⟨.of 55,2,r.closed.map cTrip⟩,some ⟨.of 130,6,r.scans.map cScan⟩,some ⟨.of 3,1,r.skip.map cInt⟩],fun H=>by replace H:=H0 H; unfold ZbT at H; exact callM_of Tryz.func80 rfl Tryz.ntmps80 Tryz.results80 fun Q hQ hQn=>wk3⟩
def Zbs (l:List Int):Option (List Int):=
 (chk (appOk ((([]:List Int):List Int).length+(l:List Int).length) 8)).bind fun _=>
 some ((([]:List Int):List Int)++l)
instance (l:List Int):CT Tryz.prog (Zbs l):=⟨162,[.sl (l.map cInt)],[],fun r=>.ms 0,fun r=>[some ⟨.of 3,1,r.map cInt⟩],fun H=>by replace H:=H0 H; unfold Zbs at H; exact callM_of Tryz.func162 rfl Tryz.ntmps162 Tryz.results162 fun Q hQ hQn=>wk3⟩
def ZbX (l:List YBooking):Option (List YBooking):=
 (chk (appOk ((([]:List YBooking):List YBooking).length+(l:List YBooking).length) 32)).bind fun _=>
 some ((([]:List YBooking):List YBooking)++l)
instance (l:List YBooking):CT Tryz.prog (ZbX l):=⟨163,[.sl (l.map cBooking)],[],fun r=>.ms 0,fun r=>[some ⟨.of 135,4,r.map cBooking⟩],fun H=>by replace H:=H0 H; unfold ZbX at H; exact callM_of Tryz.func163 rfl Tryz.ntmps163 Tryz.results163 fun Q hQ hQn=>wk3⟩
def ZaV (w:YWorld) (y1:(List Int)) (s0:Int × (List YOrder)):Option ((Int × (List YOrder)) ⊕ (List YOrder)):=
 cond (decide (s0.1<(w.orders.length:Int)))
 ((getI w.orders s0.1).bind fun y2=>
 (chk (appOk ((([]:List YTrip):List YTrip).length+(y2.way:List YTrip).length) 16)).bind fun _=>
 (frz (.un::.be 0 0 0::.be 1 0 0::.be 2 0 0::vi s0.1::.be 6 0 0::(U 59 [])) [some ⟨.of 41,10,[[.sl (w.network.legs.map cLeg),.sl (w.network.off.map cInt),vi w.network.change,.sl (w.orders.map cOrder),.sl (w.bookings.map cBooking),.sl (w.closed.map cTrip),vi w.now,.sl (w.scans.map cScan),.sl (w.skip.map cInt),vi w.made]]⟩,some ⟨.of 41,10,[[.v (.slice none 0 0),.v (.slice none 0 0),vi 0,.v (.slice none 0 0),.v (.slice none 0 0),.v (.slice none 0 0),vi 0,.v (.slice none 0 0),.v (.slice none 0 0),vi 0]]⟩,some ⟨.of 41,10,[[.ms 3,.ms 4,vi w.network.change,.ms 5,.sl (w.bookings.map cBooking),.sl (w.closed.map cTrip),vi w.now,.sl (w.scans.map cScan),.sl (w.skip.map cInt),vi w.made]]⟩,some ⟨.of 67,6,((([]:List YLeg):List YLeg)++w.network.legs).map cLeg⟩,some ⟨.of 3,1,y1.map cInt⟩,some ⟨.of 62,11,s0.2.map cOrder⟩,some ⟨.of 62,11,[[vs y2.from_,vs y2.to_,vi y2.service,vi y2.weight,vi y2.at_,vi y2.due,.sl (((([]:List YTrip):List YTrip)++y2.way).map cTrip),vi y2.gone,vi y2.state,vs y2.place,vi y2.ended]]⟩]).bind fun _=>
 (chk (appOk ((s0.2:List YOrder).length+([(⟨y2.from_,y2.to_,y2.service,y2.weight,y2.at_,y2.due,((([]:List YTrip):List YTrip)++y2.way),y2.gone,y2.state,y2.place,y2.ended⟩:YOrder)]:List YOrder).length) 128)).bind fun _=>
 some (.inl ((w64 (s0.1+1)),((s0.2:List YOrder)++[(⟨y2.from_,y2.to_,y2.service,y2.weight,y2.at_,y2.due,((([]:List YTrip):List YTrip)++y2.way),y2.gone,y2.state,y2.place,y2.ended⟩:YOrder)]))))
 (some (.inr s0.2))
instance (w:YWorld) (y1:(List Int)):LoopE (ZaV w y1):=⟨fun s0=>(.un::.be 0 0 0::.be 1 0 0::.be 2 0 0::vi s0.1::(U 60 [])),fun s0=>[some ⟨.of 41,10,[[.sl (w.network.legs.map cLeg),.sl (w.network.off.map cInt),vi w.network.change,.sl (w.orders.map cOrder),.sl (w.bookings.map cBooking),.sl (w.closed.map cTrip),vi w.now,.sl (w.scans.map cScan),.sl (w.skip.map cInt),vi w.made]]⟩,some ⟨.of 41,10,[[.v (.slice none 0 0),.v (.slice none 0 0),vi 0,.v (.slice none 0 0),.v (.slice none 0 0),.v (.slice none 0 0),vi 0,.v (.slice none 0 0),.v (.slice none 0 0),vi 0]]⟩,some ⟨.of 41,10,[[.ms 3,.ms 4,vi w.network.change,.ms 5,.sl (w.bookings.map cBooking),.sl (w.closed.map cTrip),vi w.now,.sl (w.scans.map cScan),.sl (w.skip.map cInt),vi w.made]]⟩,some ⟨.of 67,6,((([]:List YLeg):List YLeg)++w.network.legs).map cLeg⟩,some ⟨.of 3,1,y1.map cInt⟩,some ⟨.of 62,11,s0.2.map cOrder⟩]⟩
def ZcJ (w:YWorld):Option YWorld:=
 (chk (appOk ((([]:List YLeg):List YLeg).length+(w.network.legs:List YLeg).length) 64)).bind fun _=>
 (Zbs w.network.off).bind fun y1=>
 (iterF (ZaV w y1) NN (0,([]:List YOrder))).bind (fun o0=>
 (ZbX w.bookings).bind fun y3=>
 (chk (appOk ((([]:List YTrip):List YTrip).length+(w.closed:List YTrip).length) 16)).bind fun _=>
 (chk (appOk ((([]:List YScan):List YScan).length+(w.scans:List YScan).length) 56)).bind fun _=>
 (Zbs w.skip).bind fun y4=>
 some (⟨(⟨((([]:List YLeg):List YLeg)++w.network.legs),y1,w.network.change⟩:YNetwork),o0,y3,((([]:List YTrip):List YTrip)++w.closed),w.now,((([]:List YScan):List YScan)++w.scans),y4,w.made⟩:YWorld))
instance (w:YWorld):CT Tryz.prog (ZcJ w):=⟨70,[.ag (cWorld w)],[],fun r=>.ag [.ms 0,.ms 1,vi r.network.change,.ms 2,.ms 3,.ms 4,vi r.now,.ms 5,.ms 6,vi r.made],fun r=>[some ⟨.of 67,6,r.network.legs.map cLeg⟩,some ⟨.of 3,1,r.network.off.map cInt⟩,some ⟨.of 62,11,r.orders.map cOrder⟩,some ⟨.of 135,4,r.bookings.map cBooking⟩,some ⟨.of 55,2,r.closed.map cTrip⟩,some ⟨.of 130,6,r.scans.map cScan⟩,some ⟨.of 3,1,r.skip.map cInt⟩],fun H=>by replace H:=H0 H; unfold ZcJ at H; exact callM_of Tryz.func70 rfl Tryz.ntmps70 Tryz.results70 fun Q hQ hQn=>wk3⟩
theorem Zd6 {σ ο:Type} {body:σ→Option (σ ⊕ ο)} (S:Nat→σ) {n:Nat} {o:ο} (h1:∀ i,i<n→body (S i)=some (.inl (S (i+1)))) (h2:body (S n)=some (.inr o)):∀ N,n<N→iterF body N (S 0)=some o:=by
 have key:∀ d j,j+d=n→∀ N,d<N→iterF body N (S j)=some o:=by
  intro d
  induction d with
  | zero=>
   intro j hj N hN
   obtain ⟨N,rfl⟩:∃ M,N=M+1:=⟨N-1,by omega⟩
   have:j=n:=by omega
   subst this
   unfold iterF; rw [h2]; rfl
  | succ d ih=>
   intro j hj N hN
   obtain ⟨N,rfl⟩:∃ M,N=M+1:=⟨N-1,by omega⟩
   unfold iterF
   rw [h1 j (by omega)]
   exact ih (j+1) (by omega) N (by omega)
 intro N hN
 exact key n 0 (by omega) N hN
theorem chk0 {n c:Nat} (h:n≤1048576) (hc:c≤1024):chk (appOk (0+n) c)=some ():=Zdh (by omega) hc
theorem chkn {n c:Nat} (h:n≤1048576) (hc:c≤1024):chk (appOk n c)=some ():=by have:=chk0 h hc; rwa [Nat.zero_add] at this
theorem Zm2 {n:YNetwork} (h:ZZ n):ZaM n=some n:=by
 unfold ZaM
 simp only [List.length_nil,chk0 h.legs (show 64≤1024 by omega),chk0 h.off (show 8≤1024 by omega),Option.bind_some,List.nil_append]
theorem ZfL {l:List YTrip} (h:l.length≤1048576):ZA l=some l:=by
 unfold ZA
 simp only [List.length_nil,chk0 h (show 16≤1024 by omega),Option.bind_some,List.nil_append]
theorem Zmg {l:List YBooking} (h:l.length≤1048576):Zab l=some l:=by
 unfold Zab
 simp only [List.length_nil,chk0 h (show 32≤1024 by omega),Option.bind_some,List.nil_append]
theorem Zft {α:Type} {xs:List α} {i:Nat} {x:α} (h:xs[i]?=some x):xs.take i++[x]=xs.take (i+1):=by
 rw [List.take_add_one,h]; rfl
theorem Zm3 {w:YWorld} (h:WFit w):ZbT w=some w:=by
 have hor:=h.orders
 unfold ZbT
 rw [Zm2 h.net,Option.bind_some,Zmg h.bookings,Option.bind_some,ZfL h.closed,Option.bind_some]
 have e:iterF (Zaw w w.network w.bookings w.closed) NN (0,[])=some w.orders:=by
  have:=Zd6 (body:=Zaw w w.network w.bookings w.closed) (fun i:Nat=>((i:Int),w.orders.take i)) (n:=w.orders.length) (o:=w.orders) (fun i hi=>?_) ?_ NN (by unfold NN; omega)
  ·simpa using this
  ·have ho:w.orders[i]?=some w.orders[i]:=List.getElem?_eq_getElem hi
   have hg:getI w.orders (i:Int)=some w.orders[i]:=by rw [Zd]; exact ho
   have hw:w64 ((i:Int)+1)=((i+1:Nat):Int):=Zt hi (by omega)
   have hl:(w.orders.take i).length+1≤1048576:=by rw [List.length_take]; omega
   unfold Zaw
   simp only [decide_eq_true (show (i:Int)<w.orders.length by omega),cond_true,hg,Option.bind_some,ZfL (h.way _ (List.getElem_mem hi)),frz,List.length_cons,List.length_nil,Nat.zero_add,Zdh hl (show 128≤1024 by omega),hw]
   rw [← Zft ho]
  ·unfold Zaw
   simp
 simp only [List.length_nil,chk0 h.scans (show 56≤1024 by omega),chk0 h.skip (show 8≤1024 by omega),Option.bind_some,e,List.nil_append]
theorem Zjx {l:List Int} (h:l.length≤1048576):Zbs l=some l:=by
 unfold Zbs
 simp only [List.length_nil,chk0 h (show 8≤1024 by omega),Option.bind_some,List.nil_append]
theorem Zfl {l:List YBooking} (h:l.length≤1048576):ZbX l=some l:=by
 unfold ZbX
 simp only [List.length_nil,chk0 h (show 32≤1024 by omega),Option.bind_some,List.nil_append]
theorem Zm4 {w:YWorld} (h:WFit w):ZcJ w=some w:=by
 have hor:=h.orders
 unfold ZcJ
 have e:iterF (ZaV w w.network.off) NN (0,([]:List YOrder))=some w.orders:=by
  have:=Zd6 (body:=ZaV w w.network.off) (fun i:Nat=>((i:Int),w.orders.take i)) (n:=w.orders.length) (o:=w.orders) (fun i hi=>?_) ?_ NN (by unfold NN; omega)
  ·simpa using this
  ·have ho:w.orders[i]?=some w.orders[i]:=List.getElem?_eq_getElem hi
   have hg:getI w.orders (i:Int)=some w.orders[i]:=by rw [Zd]; exact ho
   have hw:w64 ((i:Int)+1)=((i+1:Nat):Int):=Zt hi (by omega)
   have hl:(w.orders.take i).length+1≤1048576:=by rw [List.length_take]; omega
   unfold ZaV
   simp only [decide_eq_true (show (i:Int)<w.orders.length by omega),cond_true,hg,Option.bind_some,chkn (h.way _ (List.getElem_mem hi)) (show 16≤1024 by omega),frz,List.length_cons,List.length_nil,Nat.zero_add,Zdh hl (show 128≤1024 by omega),hw,List.nil_append]
   rw [← Zft ho]
  ·unfold ZaV
   simp
 simp only [List.length_nil,chk0 h.net.legs (show 64≤1024 by omega),Zjx h.net.off,Zjx h.skip,chk0 h.closed (show 16≤1024 by omega),chk0 h.scans (show 56≤1024 by omega),Option.bind_some,e,Zfl h.bookings,List.nil_append]
theorem WOk.pass {w:YWorld} (h:WOk w):ZmM w:=by
 have hp:=h.parts
 refine ⟨h.fit.net,h.net,⟨rfl,⟨h.fit.skip,hp.2.2.2.1,by omega⟩,h.fit.orders⟩,fun o ho=>?_⟩
 obtain ⟨i,hi,rfl⟩:=List.getElem_of_mem ho
 have hok:=Zfu h.fit h.ok (List.getElem?_eq_getElem hi)
 refine ⟨hok.gone,h.fit.way _ ho,hok.trip,fun hs=>?_⟩
 rcases hok.cases with ⟨c,_⟩ | ⟨_,c⟩ | ⟨c,_⟩
 ·omega
 ·exact c
 ·omega
def ZdV (w:YWorld) (y1:YNetwork) (y2:(List YBooking)) (y3:(List YTrip)) (s0:Int × (List YOrder)):Option ((Int × (List YOrder)) ⊕ (List YOrder)):=
 cond (decide (s0.1<(w.orders.length:Int)))
 ((getI w.orders s0.1).bind fun y4=>
 (ZA y4.way).bind fun y5=>
 (chk (appOk ((s0.2:List YOrder).length+([(⟨y4.from_,y4.to_,y4.service,y4.weight,y4.at_,y4.due,y5,y4.gone,y4.state,y4.place,y4.ended⟩:YOrder)]:List YOrder).length) 128)).bind fun _=>
 some (.inl ((w64 (s0.1+1)),((s0.2:List YOrder)++[(⟨y4.from_,y4.to_,y4.service,y4.weight,y4.at_,y4.due,y5,y4.gone,y4.state,y4.place,y4.ended⟩:YOrder)]))))
 (some (.inr s0.2))
instance (w:YWorld) (y1:YNetwork) (y2:(List YBooking)) (y3:(List YTrip)):LoopE (ZdV w y1 y2 y3):=⟨fun s0=>(.un::.un::.be 0 0 0::.be 1 0 0::(U 25 (.sl (w.orders.map cOrder)::vi (w.orders.length:Int)::vi s0.1::(U 15 [])))),fun s0=>[some ⟨.of 41,10,[[.v (.slice none 0 0),.v (.slice none 0 0),vi 0,.v (.slice none 0 0),.v (.slice none 0 0),.v (.slice none 0 0),vi 0,.v (.slice none 0 0),.v (.slice none 0 0),vi 0]]⟩,some ⟨.of 41,10,[[.ms 2,.ms 3,vi y1.change,.ms 4,.ms 5,.ms 6,vi w.now,.ms 7,.ms 8,vi w.made]]⟩,some ⟨.of 67,6,y1.legs.map cLeg⟩,some ⟨.of 3,1,y1.off.map cInt⟩,some ⟨⟨62,some 55⟩,11,s0.2.map cOrder⟩,some ⟨.of 135,4,y2.map cBooking⟩,some ⟨.of 55,2,y3.map cTrip⟩,some ⟨.of 130,6,((([]:List YScan):List YScan)++w.scans).map cScan⟩,some ⟨.of 3,1,((([]:List Int):List Int)++w.skip).map cInt⟩]⟩
def Zdz (w:YWorld):Option YWorld:=
 (ZaM w.network).bind fun y1=>
 (Zab w.bookings).bind fun y2=>
 (ZA w.closed).bind fun y3=>
 (chk (appOk ((([]:List YScan):List YScan).length+(w.scans:List YScan).length) 56)).bind fun _=>
 (chk (appOk ((([]:List Int):List Int).length+(w.skip:List Int).length) 8)).bind fun _=>
 (iterF (ZdV w y1 y2 y3) NN (0,[])).bind (fun o0=>
 some (⟨y1,o0,y2,y3,w.now,((([]:List YScan):List YScan)++w.scans),((([]:List Int):List Int)++w.skip),w.made⟩:YWorld))
instance (w:YWorld):CT Tryz.prog (Zdz w):=⟨80,[.ag (cWorld w)],[],fun r=>.ag [.ms 0,.ms 1,vi r.network.change,.ms 2,.ms 3,.ms 4,vi r.now,.ms 5,.ms 6,vi r.made],fun r=>[some ⟨.of 67,6,r.network.legs.map cLeg⟩,some ⟨.of 3,1,r.network.off.map cInt⟩,some ⟨⟨62,some 55⟩,11,r.orders.map cOrder⟩,some ⟨.of 135,4,r.bookings.map cBooking⟩,some ⟨.of 55,2,r.closed.map cTrip⟩,some ⟨.of 130,6,r.scans.map cScan⟩,some ⟨.of 3,1,r.skip.map cInt⟩],fun H=>by replace H:=H0 H; unfold Zdz at H; exact callM_of Tryz.func80 rfl Tryz.ntmps80 Tryz.results80 fun Q hQ hQn=>wk3⟩
set_option maxRecDepth 100000
theorem eqrW {x:YWorld} (h:WFit x):ZaZ x x=some true:=by
 have e0:Zbf x.network x.network=some true:=by
  have a0:=Zlt x.network.legs h.net.legs (fun y _=>by simp [ZcW])
  have a1:=Zg4 x.network.off h.net.off
  simp [Zbf,a0,a1]
 have e1:=Zil x.orders h.orders (fun y hy=>by
  have:=Zf0 y.way (h.way y hy) (fun y _=>ZeS y)
  simp [Zb0,this])
 have e2:=ZgI x.bookings h.bookings (fun y _=>Zhq y)
 have e3:=Zf0 x.closed h.closed (fun y _=>ZeS y)
 have e4:=Zjo x.scans h.scans (fun y _=>by
  have:=ZeS y.trip
  simp [Zcy,this])
 have e5:=Zg4 x.skip h.skip
 simp [ZaZ,e0,e1,e2,e3,e4,e5]
theorem ZnM:∀ (os:List YOrder) (k:Int),nOr k os=k+10*(os.length:Int)+2*((os.map fun o=>o.way.length).sum:Nat)
 | [],k=>by simp [nOr]
 | o::os,k=>by
  rw [nOr,ZnM os]
  simp only [List.length_cons,List.map_cons,List.sum_cons]
  omega
theorem ZlH {g:YWorld} (h:WFit g) (hs:(g.orders.map fun o=>o.way.length).sum≤31457280):Zh4 g 1:=by
 have h1:=h.net.legs
 have h2:=h.net.off
 have h3:=h.orders
 have h4:=h.bookings
 have h5:=h.closed
 have h6:=h.scans
 have h7:=h.skip
 refine ⟨h1,h2,h3,h.way,h4,h5,h6,h7,by omega,?_⟩
 unfold k6W k5W k4W k3W k2W
 rw [ZnM]
 unfold k1W
 omega
theorem ZqP {os:List YOrder} (h:∀ o∈os,o.way.length≤1048576):(os.map fun o=>o.way.length).sum≤1048576*os.length:=by
 induction os with
 | nil=>simp
 | cons o os ih=>
  have:=ih fun x hx=>h x (List.mem_cons_of_mem _ hx)
  have:=h o List.mem_cons_self
  simp only [List.map_cons,List.sum_cons,List.length_cons]
  omega
theorem WOk.mkFit {g:YWorld} (h:WOk g):Zh4 g 1:=ZlH h.fit (by
 have h1:=ZqP h.fit.way
 have h2:=h.parts.2.1
 omega)
theorem ZnI {g:YWorld} (ht:totWorld g≤1048576):Zh4 g 1:=ZlH (Zk5 ht) (by
 have h1:totWorld g=totNetwork g.network+totS totOrder g.orders+g.bookings.length+g.closed.length+totS totScan g.scans+g.skip.length:=rfl
 have h2:totS totOrder g.orders=g.orders.length+(g.orders.map totOrder).sum:=rfl
 have h3:(g.orders.map fun o=>o.way.length).sum≤(g.orders.map totOrder).sum:=by
  generalize g.orders=os
  induction os with
  | nil=>simp
  | cons o os ih=>
   simp only [List.map_cons,List.sum_cons,totOrder]
   omega
 omega)
theorem Zqh {w:YWorld} (ok:okWorld w):Zbv w 1048576=some (-1)∨∃ y,Zbv w 1048576=some y∧¬ y<0∧totWorld w≤1048576:=by
 rw [Zpq w (by omega) (by omega) ok]
 by_cases h:szTo 1048576 (totWorld w)<0
 ·left
  unfold szTo at *
  split at h
  ·rw [if_pos (by assumption)]
  ·omega
 ·right
  obtain ⟨h1,_⟩:=ZeK h (by omega)
  exact ⟨_,rfl,h,by omega⟩
def Tot {α:Type} (x:Option α) (P:α→Prop):Prop:=∃ r,x=some r∧P r
theorem Tot.bind {α β:Type} {x:Option α} {P:α→Prop} {f:α→Option β} {Q:β→Prop} (h:Tot x P) (k:∀ r,P r→Tot (f r) Q):Tot (x.bind f) Q:=by
 obtain ⟨r,rfl,hr⟩:=h
 exact k r hr
theorem Tot.cond {β:Type} {b:Bool} {x y:Option β} {Q:β→Prop} (h:b=true→Tot x Q) (k:b=false→Tot y Q):Tot (cond b x y) Q:=by
 cases b with
 | true=>exact h rfl
 | false=>exact k rfl
theorem Tot.ret {β:Type} {r:β} {Q:β→Prop} (h:Q r):Tot (some r) Q:=⟨r,rfl,h⟩
theorem Tot.of {β:Type} {x:Option β} {r:β} {Q:β→Prop} (h:x=some r) (h':Q r):Tot x Q:=⟨r,h,h'⟩
theorem Tot.mono {β:Type} {x:Option β} {P Q:β→Prop} (h:Tot x P) (k:∀ r,P r→Q r):Tot x Q:=by
 obtain ⟨r,e,hr⟩:=h
 exact ⟨r,e,k r hr⟩
theorem Tot.rho {β:Type} {ρ:List Nat} {f:Unit→Option β} {Q:β→Prop} (k:Tot (f ()) Q):Tot ((rhoM ρ).bind f) Q:=k
theorem Tot.frz {β:Type} {t:List PV} {m:Mem} {f:Unit→Option β} {Q:β→Prop} (k:Tot (f ()) Q):Tot ((Go.Proofs.YtmcdjilbkmhfoaaGreat.frz t m).bind f) Q:=k
theorem Tot.frzL {α β:Type} {x:α} {t:α→List PV} {m:α→Mem} {f:α→Option β} {Q:β→Prop} (k:Tot (f x) Q):Tot ((Go.Proofs.YtmcdjilbkmhfoaaGreat.frzL x t m).bind f) Q:=k
theorem Tot.chk {β:Type} {b:Bool} {f:Unit→Option β} {Q:β→Prop} (h:b=true) (k:Tot (f ()) Q):Tot ((Go.Proofs.YtmcdjilbkmhfoaaGreat.chk b).bind f) Q:=by
 subst h; exact k
theorem Tot.get {α β:Type} {xs:List α} {i:Int} {f:α→Option β} {Q:β→Prop} (h0:0≤i) (h1:i<xs.length) (k:∀ x,x∈xs→getI xs i=some x→Tot (f x) Q):Tot ((getI xs i).bind f) Q:=by
 have hlt:i.toNat<xs.length:=by omega
 have e:getI xs i=some xs[i.toNat]:=by unfold getI; rw [if_pos h0]; exact List.getElem?_eq_getElem hlt
 rw [e]
 exact k _ (List.getElem_mem hlt) e
def Zkj {σ ο:Type} (I:Nat→σ→Prop) (P:ο→Prop) (k:Nat):σ ⊕ ο→Prop
 | .inl s'=>∃ k',k'<k∧I k' s'
 | .inr o=>P o
theorem Tot.loop {σ ο:Type} {body:σ→Option (σ ⊕ ο)} (I:Nat→σ→Prop) {P:ο→Prop} (h:∀ k s,I k s→Tot (body s) (Zkj I P k)):∀ (N k:Nat) (s:σ),I k s→k<N→Tot (iterF body N s) P
 | 0,k,s,_,hN=>by omega
 | N+1,k,s,hI,hN=>by
  obtain ⟨r,e,hr⟩:=h k s hI
  simp only [iterF,e]
  cases r with
  | inr o=>exact ⟨o,rfl,hr⟩
  | inl s'=>
   obtain ⟨k',hk,hI'⟩:=hr
   exact Tot.loop I h N k' s' hI' (by omega)
theorem Zgu {a b c:Nat} (h:a+b≤1099511627776) (hc:c≤128):appOk (a+b) c=true:=by
 unfold appOk
 refine decide_eq_true ⟨by omega,?_⟩
 have:(a+b)*c≤1099511627776*128:=Nat.mul_le_mul h hc
 omega
structure ZsA (c:ZmN):Prop where
 i:0≤c.i
 len:c.b.length≤4096
 b:∀ x∈c.b,0≤x.v∧x.v≤255
def Zrg:List ByteArray:=[⟨#[65,77,83]⟩,⟨#[66,82,85]⟩,⟨#[67,68,71]⟩,⟨#[68,85,66]⟩,⟨#[69,68,73]⟩,⟨#[70,82,65]⟩,⟨#[71,79,84]⟩]
structure LegD (l:YLeg):Prop where
 from_:l.from_∈Zrg
 to_:l.to_∈Zrg
 ne:¬ l.from_=l.to_
 start:0≤l.start∧l.start≤1439
 takes:1≤l.takes∧l.takes≤4320
 days:1≤l.days∧l.days≤127
 room:0≤l.room∧l.room≤1000000
structure NetD (n:YNetwork):Prop where
 len:1≤n.legs.length∧n.legs.length≤14
 leg:∀ l∈n.legs,LegD l
 off:n.off=[]∨∃ a b:Int,n.off=[a,b]∧0≤a∧a<b∧b≤60
 change:0≤n.change∧n.change≤240
def ZcO (a:Int) (b:Int):Option Int:=
 cond (decide (a<b))
 (some b)
 (some a)
instance (a:Int) (b:Int):CT Tryz.prog (ZcO a b):=⟨190,[vi a,vi b],[],fun r=>vi r,fun r=>[],fun H=>by replace H:=H0 H; unfold ZcO at H; exact callM_of Tryz.func190 rfl Tryz.ntmps190 Tryz.results190 fun Q hQ hQn=>wk3⟩
def ZaY (places:List ByteArray) (from1_:Int) (at2_:Int) (s0:Int × (List Int)):Option ((Int × (List Int)) ⊕ (List Int)):=
 cond (decide (s0.1<(places.length:Int)))
 (cond (decide (s0.1=from1_))
 ((ZcO at2_ 0).bind fun y1=>
 (chk (appOk ((s0.2:List Int).length+([y1]:List Int).length) 8)).bind fun _=>
 some (.inl ((w64 (s0.1+1)),((s0.2:List Int)++[y1]))))
 ((chk (appOk ((s0.2:List Int).length+([(-1)]:List Int).length) 8)).bind fun _=>
 some (.inl ((w64 (s0.1+1)),((s0.2:List Int)++[(-1)])))))
 (some (.inr s0.2))
instance (places:List ByteArray) (from1_:Int) (at2_:Int):LoopE (ZaY places from1_ at2_):=⟨fun s0=>(.sl (places.map cStr)::vi from1_::vi at2_::(U 4 (.ms 0::vi s0.1::(U 19 [])))),fun s0=>[some ⟨.of 3,1,s0.2.map cInt⟩]⟩
def Zbw (places:List ByteArray) (from1_:Int) (at2_:Int):Option (List Int):=
 (iterF (ZaY places from1_ at2_) NN (0,([]:List Int))).bind (fun o0=>
 some o0)
instance (places:List ByteArray) (from1_:Int) (at2_:Int):CT Tryz.prog (Zbw places from1_ at2_):=⟨233,[.sl (places.map cStr),vi from1_,vi at2_],[],fun r=>.ms 0,fun r=>[some ⟨.of 3,1,r.map cInt⟩],fun H=>by replace H:=H0 H; unfold Zbw at H; exact callM_of Tryz.func233 rfl Tryz.ntmps233 Tryz.results233 fun Q hQ hQn=>wk3⟩
def ZR (n:YNetwork) (at1_:Int) (first:Bool):Option Int:=
 cond first
 (some at1_)
 (some (w64 (at1_+n.change)))
instance (n:YNetwork) (at1_:Int) (first:Bool):CT Tryz.prog (ZR n at1_ first):=⟨236,[.ag (cNetwork n),vi at1_,vb first],[],fun r=>vi r,fun r=>[],fun H=>by replace H:=H0 H; unfold ZR at H; exact callM_of Tryz.func236 rfl Tryz.ntmps236 Tryz.results236 fun Q hQ hQn=>wk3⟩
def ZP (n:YNetwork) (l:List YBooking) (closed:List YTrip) (leg:Int) (at4_:Int) (weight:Int) (s0:Int):Option (Int ⊕ (Unit ⊕ Int)):=
 cond (decide (s0≤60))
 ((Zw n leg s0).bind fun y1=>
 cond y1
 ((Zg n (⟨leg,s0⟩:YTrip)).bind fun y2=>
 cond (decide (at4_≤y2))
 ((Zar closed (⟨leg,s0⟩:YTrip)).bind fun y3=>
 cond (!y3)
 ((getI n.legs leg).bind fun y4=>
 (ZN l (⟨leg,s0⟩:YTrip)).bind fun y5=>
 cond (decide (weight≤(w64 (y4.room-y5))))
 (some (.inr (.inr s0)))
 (some (.inl (w64 (s0+1)))))
 (some (.inl (w64 (s0+1)))))
 (some (.inl (w64 (s0+1)))))
 (some (.inl (w64 (s0+1)))))
 (some (.inr (.inl ())))
instance (n:YNetwork) (l:List YBooking) (closed:List YTrip) (leg:Int) (at4_:Int) (weight:Int):LoopE (ZP n l closed leg at4_ weight):=⟨fun s0=>(.un::.sl (l.map cBooking)::.sl (closed.map cTrip)::vi leg::vi at4_::vi weight::.be 0 0 0::(U 6 (vi s0::(U 40 [])))),fun s0=>[some ⟨.of 35,3,[[.sl (n.legs.map cLeg),.sl (n.off.map cInt),vi n.change]]⟩]⟩
def ZH (n:YNetwork) (l:List YBooking) (closed:List YTrip) (leg:Int) (at4_:Int) (weight:Int):Option Int:=
 (iterF (ZP n l closed leg at4_ weight) NN 0).bind (selim (fun o0=>
 some (-1)) (fun r=>some r))
instance (n:YNetwork) (l:List YBooking) (closed:List YTrip) (leg:Int) (at4_:Int) (weight:Int):CT Tryz.prog (ZH n l closed leg at4_ weight):=⟨235,[.ag (cNetwork n),.sl (l.map cBooking),.sl (closed.map cTrip),vi leg,vi at4_,vi weight],[],fun r=>vi r,fun r=>[],fun H=>by replace H:=H0 H; unfold ZH at H; exact callM_of Tryz.func235 rfl Tryz.ntmps235 Tryz.results235 fun Q hQ hQn=>wk3⟩
def Zax (n:YNetwork) (l:List YBooking) (closed:List YTrip) (weight:Int) (places:List ByteArray) (best:List Int) (from6_:Int) (s0:Int × (List Int)):Option ((Int × (List Int)) ⊕ (List Int)):=
 cond (decide (s0.1<(n.legs.length:Int)))
 ((getI n.legs s0.1).bind fun y2=>
 (Zp places y2.from_).bind fun y3=>
 (getI n.legs s0.1).bind fun y4=>
 (Zp places y4.to_).bind fun y5=>
 (getI best y3).bind fun y6=>
 cond (decide (y6<0))
 (some (.inl ((w64 (s0.1+1)),s0.2)))
 ((getI best y3).bind fun y7=>
 (ZR n y7 (decide (y3=from6_))).bind fun y8=>
 (ZH n l closed s0.1 y8 weight).bind fun y9=>
 cond (decide (y9<0))
 (some (.inl ((w64 (s0.1+1)),s0.2)))
 ((Ze n (⟨s0.1,y9⟩:YTrip)).bind fun y10=>
 (getI s0.2 y5).bind fun y11=>
 cond (decide (y11<0))
 ((getI s0.2 y5).bind fun y12=>
 some (.inl ((w64 (s0.1+1)),(s0.2.set (Int.toNat y5) y10))))
 ((getI s0.2 y5).bind fun y13=>
 cond (decide (y10<y13))
 ((getI s0.2 y5).bind fun y14=>
 some (.inl ((w64 (s0.1+1)),(s0.2.set (Int.toNat y5) y10))))
 (some (.inl ((w64 (s0.1+1)),s0.2)))))))
 (some (.inr s0.2))
instance (n:YNetwork) (l:List YBooking) (closed:List YTrip) (weight:Int) (places:List ByteArray) (best:List Int) (from6_:Int):LoopE (Zax n l closed weight places best from6_):=⟨fun s0=>(.un::.sl (l.map cBooking)::.sl (closed.map cTrip)::vi weight::.sl (places.map cStr)::.sl (best.map cInt)::vi from6_::.be 0 0 0::(U 7 (.ms 1::vi s0.1::(U 74 [])))),fun s0=>[some ⟨.of 35,3,[[.sl (n.legs.map cLeg),.sl (n.off.map cInt),vi n.change]]⟩,some ⟨.of 3,1,s0.2.map cInt⟩]⟩
def Zaf (n:YNetwork) (l:List YBooking) (closed:List YTrip) (weight:Int) (places:List ByteArray) (best:List Int) (from6_:Int):Option (List Int):=
 (Zbs best).bind fun y1=>
 (iterF (Zax n l closed weight places best from6_) NN (0,y1)).bind (fun o0=>
 some o0)
instance (n:YNetwork) (l:List YBooking) (closed:List YTrip) (weight:Int) (places:List ByteArray) (best:List Int) (from6_:Int):CT Tryz.prog (Zaf n l closed weight places best from6_):=⟨234,[.ag (cNetwork n),.sl (l.map cBooking),.sl (closed.map cTrip),vi weight,.sl (places.map cStr),.sl (best.map cInt),vi from6_],[],fun r=>.ms 0,fun r=>[some ⟨.of 3,1,r.map cInt⟩],fun H=>by replace H:=H0 H; unfold Zaf at H; exact callM_of Tryz.func234 rfl Tryz.ntmps234 Tryz.results234 fun Q hQ hQn=>wk3⟩
def Za7 (n:YNetwork) (l:List YBooking) (closed:List YTrip) (weight:Int) (legs:Int) (y1:(List ByteArray)) (y2:Int) (s0:Int × (List Int)):Option ((Int × (List Int)) ⊕ (List Int)):=
 cond (decide (s0.1<legs))
 (cond (decide (s0.1<(y1.length:Int)))
 ((Zaf n l closed weight y1 s0.2 y2).bind fun y5=>
 some (.inl ((w64 (s0.1+1)),y5)))
 (some (.inr s0.2)))
 (some (.inr s0.2))
instance (n:YNetwork) (l:List YBooking) (closed:List YTrip) (weight:Int) (legs:Int) (y1:(List ByteArray)) (y2:Int):LoopE (Za7 n l closed weight legs y1 y2):=⟨fun s0=>(.un::.sl (l.map cBooking)::.sl (closed.map cTrip)::.un::.un::vi weight::vi legs::.be 0 0 0::(U 7 (.ms 1::vi y2::.ms 2::vi s0.1::(U 50 [])))),fun s0=>[some ⟨.of 35,3,[[.sl (n.legs.map cLeg),.sl (n.off.map cInt),vi n.change]]⟩,some ⟨.of 9,1,y1.map cStr⟩,some ⟨.of 3,1,s0.2.map cInt⟩]⟩
def Zv (n:YNetwork) (l:List YBooking) (closed:List YTrip) (from3_:ByteArray) (at4_:Int) (weight:Int) (legs:Int):Option (List Int):=
 (ZO n).bind fun y1=>
 (Zp y1 from3_).bind fun y2=>
 (ZX n l).bind fun y3=>
 cond (!y3)
 (some ([]:List Int))
 (cond (decide (y2<0))
 (some ([]:List Int))
 (cond (decide (100000<at4_))
 (some ([]:List Int))
 (cond (decide (weight<1))
 (some ([]:List Int))
 (cond (decide (legs<0))
 (some ([]:List Int))
 ((Zbw y1 y2 at4_).bind fun y4=>
 (iterF (Za7 n l closed weight legs y1 y2) NN (0,y4)).bind (fun o0=>
 some o0))))))
instance (n:YNetwork) (l:List YBooking) (closed:List YTrip) (from3_:ByteArray) (at4_:Int) (weight:Int) (legs:Int):CT Tryz.prog (Zv n l closed from3_ at4_ weight legs):=⟨195,[.ag (cNetwork n),.sl (l.map cBooking),.sl (closed.map cTrip),vs from3_,vi at4_,vi weight,vi legs],[],fun r=>.ms 0,fun r=>[some ⟨.of 3,1,r.map cInt⟩],fun H=>by replace H:=H0 H; unfold Zv at H; exact callM_of Tryz.func195 rfl Tryz.ntmps195 Tryz.results195 fun Q hQ hQn=>wk3⟩
def Zbj (n:YNetwork) (l:List YBooking) (closed:List YTrip) (weight:Int) (places:List ByteArray) (before:List Int) (from6_:Int) (to_:Int) (ends:Int) (s0:Int):Option (Int ⊕ (Unit ⊕ YTrip)):=
 cond (decide (s0<(n.legs.length:Int)))
 ((getI n.legs s0).bind fun y1=>
 (Zp places y1.from_).bind fun y2=>
 (getI n.legs s0).bind fun y3=>
 (getI places to_).bind fun y4=>
 cond (!decide (y3.to_=y4))
 (some (.inl (w64 (s0+1))))
 ((getI before y2).bind fun y5=>
 cond (decide (y5<0))
 (some (.inl (w64 (s0+1))))
 ((getI before y2).bind fun y6=>
 (ZR n y6 (decide (y2=from6_))).bind fun y7=>
 (ZH n l closed s0 y7 weight).bind fun y8=>
 cond (decide (0≤y8))
 ((Ze n (⟨s0,y8⟩:YTrip)).bind fun y9=>
 cond (decide (y9=ends))
 (some (.inr (.inr (⟨s0,y8⟩:YTrip))))
 (some (.inl (w64 (s0+1)))))
 (some (.inl (w64 (s0+1)))))))
 (some (.inr (.inl ())))
instance (n:YNetwork) (l:List YBooking) (closed:List YTrip) (weight:Int) (places:List ByteArray) (before:List Int) (from6_:Int) (to_:Int) (ends:Int):LoopE (Zbj n l closed weight places before from6_ to_ ends):=⟨fun s0=>(.un::.sl (l.map cBooking)::.sl (closed.map cTrip)::vi weight::.sl (places.map cStr)::.sl (before.map cInt)::vi from6_::vi to_::vi ends::.be 0 0 0::(U 8 (.be 1 0 0::vi s0::(U 64 [])))),fun s0=>[some ⟨.of 35,3,[[.sl (n.legs.map cLeg),.sl (n.off.map cInt),vi n.change]]⟩,some ⟨.of 55,2,[[vi 0,vi 0]]⟩]⟩
def ZdS (n:YNetwork) (l:List YBooking) (closed:List YTrip) (weight:Int) (places:List ByteArray) (before:List Int) (from6_:Int) (to_:Int) (ends:Int):Option YTrip:=
 (iterF (Zbj n l closed weight places before from6_ to_ ends) NN 0).bind (selim (fun o0=>
 some (⟨0,0⟩:YTrip)) (fun r=>some r))
instance (n:YNetwork) (l:List YBooking) (closed:List YTrip) (weight:Int) (places:List ByteArray) (before:List Int) (from6_:Int) (to_:Int) (ends:Int):CT Tryz.prog (ZdS n l closed weight places before from6_ to_ ends):=⟨196,[.ag (cNetwork n),.sl (l.map cBooking),.sl (closed.map cTrip),vi weight,.sl (places.map cStr),.sl (before.map cInt),vi from6_,vi to_,vi ends],[],fun r=>.ag [vi r.leg,vi r.day],fun r=>[],fun H=>by replace H:=H0 H; unfold ZdS at H; exact callM_of Tryz.func196 rfl Tryz.ntmps196 Tryz.results196 fun Q hQ hQn=>wk3⟩
def Zam (n:YNetwork) (l:List YBooking) (closed:List YTrip) (from3_:ByteArray) (at5_:Int) (weight:Int) (y1:(List ByteArray)) (y2:Int) (y3:Int) (y6:Int) (s0:Int):Option (Int ⊕ Int):=
 (Zv n l closed from3_ at5_ weight s0).bind fun y7=>
 (getI y7 y3).bind fun y8=>
 cond (!decide (y8=y6))
 (some (.inl (w64 (s0+1))))
 (some (.inr s0))
instance (n:YNetwork) (l:List YBooking) (closed:List YTrip) (from3_:ByteArray) (at5_:Int) (weight:Int) (y1:(List ByteArray)) (y2:Int) (y3:Int) (y6:Int):LoopE (Zam n l closed from3_ at5_ weight y1 y2 y3 y6):=⟨fun s0=>(.un::.sl (l.map cBooking)::.sl (closed.map cTrip)::vs from3_::.un::vi at5_::vi weight::.be 0 0 0::(U 8 (.ms 1::vi y2::vi y3::.un::.ms 2::vi y6::vi s0::(U 97 [])))),fun s0=>[some ⟨.of 35,3,[[.sl (n.legs.map cLeg),.sl (n.off.map cInt),vi n.change]]⟩,some ⟨.of 9,1,y1.map cStr⟩,some ⟨.of 55,2,([]:List YTrip).map cTrip⟩]⟩
def ZJ (n:YNetwork) (l:List YBooking) (closed:List YTrip) (from3_:ByteArray) (at5_:Int) (weight:Int) (y1:(List ByteArray)) (y2:Int) (s1:Int × Int × Int × (List YTrip)):Option ((Int × Int × Int × (List YTrip)) ⊕ (List YTrip)):=
 cond (decide (0<s1.2.2.1))
 ((Zv n l closed from3_ at5_ weight (w64 (s1.2.2.1-1))).bind fun y9=>
 (ZdS n l closed weight y1 y9 y2 s1.1 s1.2.1).bind fun y10=>
 (chk (appOk (([y10]:List YTrip).length+(s1.2.2.2:List YTrip).length) 16)).bind fun _=>
 (getI n.legs y10.leg).bind fun y11=>
 (Zp y1 y11.from_).bind fun y12=>
 (getI y9 y12).bind fun y13=>
 some (.inl (y12,y13,(w64 (s1.2.2.1-1)),(([y10]:List YTrip)++s1.2.2.2))))
 (some (.inr s1.2.2.2))
instance (n:YNetwork) (l:List YBooking) (closed:List YTrip) (from3_:ByteArray) (at5_:Int) (weight:Int) (y1:(List ByteArray)) (y2:Int):LoopE (ZJ n l closed from3_ at5_ weight y1 y2):=⟨fun s1=>(.un::.sl (l.map cBooking)::.sl (closed.map cTrip)::vs from3_::.un::vi at5_::vi weight::.be 0 0 0::(U 8 (.ms 1::vi y2::vi s1.1::.un::.ms 2::vi s1.2.1::.un::vi s1.2.2.1::(U 96 [])))),fun s1=>[some ⟨.of 35,3,[[.sl (n.legs.map cLeg),.sl (n.off.map cInt),vi n.change]]⟩,some ⟨.of 9,1,y1.map cStr⟩,some ⟨.of 55,2,s1.2.2.2.map cTrip⟩]⟩
def Zq (n:YNetwork) (l:List YBooking) (closed:List YTrip) (from3_:ByteArray) (to_:ByteArray) (at5_:Int) (weight:Int):Option ((List YTrip) × Bool):=
 (ZO n).bind fun y1=>
 (Zp y1 from3_).bind fun y2=>
 (Zp y1 to_).bind fun y3=>
 (Zv n l closed from3_ at5_ weight (y1.length:Int)).bind fun y4=>
 cond (decide (y3<0))
 (some (([]:List YTrip),false))
 (cond (decide ((y4.length:Int)=0))
 (some (([]:List YTrip),false))
 ((getI y4 y3).bind fun y5=>
 cond (decide (y5<0))
 (some (([]:List YTrip),false))
 ((getI y4 y3).bind fun y6=>
 (iterF (Zam n l closed from3_ at5_ weight y1 y2 y3 y6) NN 0).bind (fun o0=>
 (iterF (ZJ n l closed from3_ at5_ weight y1 y2) NN (y3,y6,o0,([]:List YTrip))).bind (fun o1=>
 some (o1,true))))))
instance (n:YNetwork) (l:List YBooking) (closed:List YTrip) (from3_:ByteArray) (to_:ByteArray) (at5_:Int) (weight:Int):CT Tryz.prog (Zq n l closed from3_ to_ at5_ weight):=⟨130,[.ag (cNetwork n),.sl (l.map cBooking),.sl (closed.map cTrip),vs from3_,vs to_,vi at5_,vi weight],[],fun r=>.tu [.ms 0,vb r.2],fun r=>[some ⟨.of 55,2,r.1.map cTrip⟩],fun H=>by replace H:=H0 H; unfold Zq at H; exact callM_of Tryz.func130 rfl Tryz.ntmps130 Tryz.results130 fun Q hQ hQn=>wk3⟩
def Zex (l:List YBooking) (b:YBooking) (s0:Int):Option (Int ⊕ Int):=
 cond (decide (s0<(l.length:Int)))
 ((getI l s0).bind fun y1=>
 (Zcq y1 b).bind fun y2=>
 cond y2
 (some (.inl (w64 (s0+1))))
 (some (.inr s0)))
 (some (.inr s0))
instance (l:List YBooking) (b:YBooking):LoopE (Zex l b):=⟨fun s0=>(.sl (l.map cBooking)::.un::.un::.be 0 0 0::.un::vi s0::(U 25 [])),fun s0=>[some ⟨.of 135,4,[[vi b.thing,vi b.trip.leg,vi b.trip.day,vi b.weight]]⟩]⟩
def Zef (l:List YBooking) (b:YBooking):Option (List YBooking):=
 (iterF (Zex l b) NN 0).bind (fun o0=>
 (chk (slOk 0 o0 l.length)).bind fun _=>
 (ZbX (subL l 0 o0)).bind fun y3=>
 (chk (appOk ((y3:List YBooking).length+([b]:List YBooking).length) 32)).bind fun _=>
 (chk (slOk o0 (l.length:Int) l.length)).bind fun _=>
 (chk (appOk ((((y3:List YBooking)++[b]):List YBooking).length+((subL l o0 (l.length:Int)):List YBooking).length) 32)).bind fun _=>
 some ((((y3:List YBooking)++[b]):List YBooking)++(subL l o0 (l.length:Int))))
instance (l:List YBooking) (b:YBooking):CT Tryz.prog (Zef l b):=⟨197,[.sl (l.map cBooking),.ag (cBooking b)],[],fun r=>.ms 0,fun r=>[some ⟨.of 135,4,r.map cBooking⟩],fun H=>by replace H:=H0 H; unfold Zef at H; exact callM_of Tryz.func197 rfl Tryz.ntmps197 Tryz.results197 fun Q hQ hQn=>wk3⟩
def Zc8 (n:YNetwork) (l:List YBooking) (thing:Int) (weight:Int) (way:List YTrip) (s0:Int × (List YBooking)):Option ((Int × (List YBooking)) ⊕ (List YBooking)):=
 cond (decide (s0.1<(way.length:Int)))
 ((getI way s0.1).bind fun y3=>
 (Zef s0.2 (⟨thing,y3,weight⟩:YBooking)).bind fun y4=>
 some (.inl ((w64 (s0.1+1)),y4)))
 (some (.inr s0.2))
instance (n:YNetwork) (l:List YBooking) (thing:Int) (weight:Int) (way:List YTrip):LoopE (Zc8 n l thing weight way):=⟨fun s0=>(.un::.sl (l.map cBooking)::vi thing::vi weight::.sl (way.map cTrip)::.be 0 0 0::(U 6 (.ms 1::vi s0.1::(U 34 [])))),fun s0=>[some ⟨.of 35,3,[[.sl (n.legs.map cLeg),.sl (n.off.map cInt),vi n.change]]⟩,some ⟨.of 135,4,s0.2.map cBooking⟩]⟩
def Zx (n:YNetwork) (l:List YBooking) (thing:Int) (weight:Int) (way:List YTrip):Option ((List YBooking) × Bool):=
 (ZbX l).bind fun y1=>
 (ZX n l).bind fun y2=>
 cond (!y2)
 (some (y1,false))
 (cond (decide (20<(way.length:Int)))
 (some (y1,false))
 ((iterF (Zc8 n l thing weight way) NN (0,y1)).bind (fun o0=>
 (ZX n o0).bind fun y5=>
 cond (!y5)
 ((ZbX l).bind fun y6=>
 some (y6,false))
 (some (o0,true)))))
instance (n:YNetwork) (l:List YBooking) (thing:Int) (weight:Int) (way:List YTrip):CT Tryz.prog (Zx n l thing weight way):=⟨131,[.ag (cNetwork n),.sl (l.map cBooking),vi thing,vi weight,.sl (way.map cTrip)],[],fun r=>.tu [.ms 0,vb r.2],fun r=>[some ⟨.of 135,4,r.1.map cBooking⟩],fun H=>by replace H:=H0 H; unfold Zx at H; exact callM_of Tryz.func131 rfl Tryz.ntmps131 Tryz.results131 fun Q hQ hQn=>wk3⟩
def Za8 (n:YNetwork) (l:List YBooking) (thing:Int) (at3_:Int) (y1:Bool) (s0:Int × (List YBooking)):Option ((Int × (List YBooking)) ⊕ (List YBooking)):=
 cond (decide (s0.1<(l.length:Int)))
 (cond (!y1)
 ((getI l s0.1).bind fun y2=>
 (chk (appOk ((s0.2:List YBooking).length+([y2]:List YBooking).length) 32)).bind fun _=>
 some (.inl ((w64 (s0.1+1)),((s0.2:List YBooking)++[y2]))))
 ((getI l s0.1).bind fun y3=>
 cond (!decide (y3.thing=thing))
 ((getI l s0.1).bind fun y4=>
 (chk (appOk ((s0.2:List YBooking).length+([y4]:List YBooking).length) 32)).bind fun _=>
 some (.inl ((w64 (s0.1+1)),((s0.2:List YBooking)++[y4]))))
 ((getI l s0.1).bind fun y5=>
 (Zg n y5.trip).bind fun y6=>
 cond (decide (y6<at3_))
 ((getI l s0.1).bind fun y7=>
 (chk (appOk ((s0.2:List YBooking).length+([y7]:List YBooking).length) 32)).bind fun _=>
 some (.inl ((w64 (s0.1+1)),((s0.2:List YBooking)++[y7]))))
 (some (.inl ((w64 (s0.1+1)),s0.2))))))
 (some (.inr s0.2))
instance (n:YNetwork) (l:List YBooking) (thing:Int) (at3_:Int) (y1:Bool):LoopE (Za8 n l thing at3_ y1):=⟨fun s0=>(.un::.sl (l.map cBooking)::vi thing::vi at3_::.be 0 0 0::(U 4 (.ms 1::vb y1::vi s0.1::(U 40 [])))),fun s0=>[some ⟨.of 35,3,[[.sl (n.legs.map cLeg),.sl (n.off.map cInt),vi n.change]]⟩,some ⟨.of 135,4,s0.2.map cBooking⟩]⟩
def Zcm (n:YNetwork) (l:List YBooking) (thing:Int) (at3_:Int):Option (List YBooking):=
 (ZX n l).bind fun y1=>
 (iterF (Za8 n l thing at3_ y1) NN (0,([]:List YBooking))).bind (fun o0=>
 some o0)
instance (n:YNetwork) (l:List YBooking) (thing:Int) (at3_:Int):CT Tryz.prog (Zcm n l thing at3_):=⟨191,[.ag (cNetwork n),.sl (l.map cBooking),vi thing,vi at3_],[],fun r=>.ms 0,fun r=>[some ⟨.of 135,4,r.map cBooking⟩],fun H=>by replace H:=H0 H; unfold Zcm at H; exact callM_of Tryz.func191 rfl Tryz.ntmps191 Tryz.results191 fun Q hQ hQn=>wk3⟩
theorem Zer (l:List ByteArray) (p:ByteArray):-1≤idxV l p∧idxV l p<l.length:=by
 unfold idxV
 cases h:l.findIdx? fun y=>decide (y=p) with
 | none=>simp; omega
 | some k=>
  have:=(List.findIdx?_eq_some_iff_getElem.1 h).1
  simp only [Option.elim]; omega
theorem ZdG {l:List ByteArray} {p:ByteArray} (h:p∈l):0≤idxV l p:=by
 unfold idxV
 cases h':l.findIdx? fun y=>decide (y=p) with
 | none=>
  have:=List.findIdx?_eq_none_iff.1 h' p h
  simp at this
 | some k=>simp only [Option.elim]; omega
theorem ZeV {n:YNetwork} {l:YLeg} (h:l∈n.legs):l.from_∈Za n∧l.to_∈Za n:=by
 obtain ⟨i,hi,rfl⟩:=List.getElem_of_mem h
 obtain ⟨a,b⟩:=ZjO hi
 unfold Za
 exact ⟨Zf4.2 (.inl (List.mem_of_getElem? a)),Zf4.2 (.inl (List.mem_of_getElem? b))⟩
theorem Zei {α:Type} {xs:List α} {i:Int} (h:0≤i∧i<xs.length):∃ x,getI xs i=some x∧x∈xs:=by
 have hlt:i.toNat<xs.length:=by omega
 exact ⟨xs[i.toNat],by unfold getI; rw [if_pos h.1]; exact List.getElem?_eq_getElem hlt,List.getElem_mem hlt⟩
section
variable {n:YNetwork} (hf:ZZ n)
include hf
theorem plen:(Za n).length≤2097152:=by have:=Zbk n; have:=hf.legs; omega
theorem ZeU (p:ByteArray):Zp (Za n) p=some (idxV (Za n) p):=Zet (by have:=plen hf; omega) p
theorem Zp0 (leg day:Int):∃ b,Zw n leg day=some b:=(ZeJ hf leg day).2
theorem Zir {l:List YBooking} (hl:l.length≤1048576) {closed:List YTrip} (hc:closed.length≤1048576) {leg:Int} {y:YLeg} (hy:getI n.legs leg=some y) (at_ weight:Int):Tot (ZH n l closed leg at_ weight) fun r=>True:=by
 unfold ZH
 have hl0:Tot (iterF (ZP n l closed leg at_ weight) NN 0) fun r=>True:=by
  refine Tot.loop (fun k s=>∃ i:Nat,s=(i:Int)∧i+k=61) (fun k s hs=>?_) NN 61 0 ⟨0,rfl,rfl⟩ (by unfold NN; omega)
  obtain ⟨i,rfl,hk⟩:=hs
  unfold ZP
  refine Tot.cond (fun hd=>?_) fun hd=>Tot.ret trivial
  have hi:=of_decide_eq_true hd
  have hw:w64 ((i:Int)+1)=((i+1:Nat):Int):=by rw [Zc (by omega)]; omega
  have go:∀ {σ:Type},Zkj (fun k (s:Int)=>∃ i:Nat,s=(i:Int)∧i+k=61) (fun r:Unit ⊕ Int=>True) k (Sum.inl (w64 ((i:Int)+1))):=⟨k-1,by omega,i+1,hw,by omega⟩
  obtain ⟨b,hb⟩:=Zp0 hf leg (i:Int)
  obtain ⟨v,hv⟩:=ZeB (n:=n) (t:=⟨leg,(i:Int)⟩) hy
  obtain ⟨q,hq⟩:=ZeW hl (⟨leg,(i:Int)⟩:YTrip)
  rw [hb,Option.bind_some]
  refine Tot.cond (fun _=>?_) fun _=>Tot.ret (go (σ:=Unit))
  rw [hv,Option.bind_some]
  refine Tot.cond (fun _=>?_) fun _=>Tot.ret (go (σ:=Unit))
  rw [Zd0,Zea hc,Option.bind_some]
  refine Tot.cond (fun _=>?_) fun _=>Tot.ret (go (σ:=Unit))
  rw [hy,Option.bind_some,hq,Option.bind_some]
  exact Tot.cond (fun _=>Tot.ret trivial) fun _=>Tot.ret (go (σ:=Unit))
 refine Tot.bind hl0 fun r _=>?_
 cases r with
 | inl u=>exact Tot.ret trivial
 | inr v=>exact Tot.ret trivial
omit hf in
theorem Zgi (a:Int) (b:Bool):Tot (ZR n a b) fun r=>True:=by
 unfold ZR
 exact Tot.cond (fun _=>Tot.ret trivial) fun _=>Tot.ret trivial
omit hf in
theorem Zqv (a b:Int):Tot (ZcO a b) fun r=>True:=by
 unfold ZcO
 exact Tot.cond (fun _=>Tot.ret trivial) fun _=>Tot.ret trivial
theorem Zjp (f at_:Int):Tot (Zbw (Za n) f at_) fun r=>r.length=(Za n).length:=by
 have hp:=plen hf
 unfold Zbw
 refine Tot.bind (P:=fun o=>o.length=(Za n).length) ?_ fun o ho=>Tot.ret ho
 refine Tot.loop (fun k s=>∃ i:Nat,s.1=(i:Int)∧i+k=(Za n).length∧s.2.length=i) (fun k s hs=>?_) NN (Za n).length _ ⟨0,rfl,by omega,rfl⟩ (by unfold NN; omega)
 obtain ⟨i,hi,hk,hlen⟩:=hs
 unfold ZaY
 rw [hi]
 refine Tot.cond (fun hd=>?_) fun hd=>Tot.ret (by have:=of_decide_eq_false hd; simp only [Zkj]; omega)
 have hlt:=of_decide_eq_true hd
 have hw:w64 ((i:Int)+1)=((i+1:Nat):Int):=by rw [Zc (by omega)]; omega
 rw [hw]
 have go:∀ (x:Int),Zkj (fun k (s:Int × List Int)=>∃ i:Nat,s.1=(i:Int)∧i+k=(Za n).length∧s.2.length=i) (fun o:List Int=>o.length=(Za n).length) k (Sum.inl (((i+1:Nat):Int),s.2++[x])):=fun x=>⟨k-1,by omega,i+1,rfl,by omega,by simp [hlen]⟩
 refine Tot.cond (fun _=>Tot.bind (Zqv _ _) fun y _=>Tot.chk (Zgu (by simp only [List.length_cons,List.length_nil]; omega) (by omega)) (Tot.ret (go y))) fun _=>Tot.chk (Zgu (by simp only [List.length_cons,List.length_nil]; omega) (by omega)) (Tot.ret (go _))
theorem Zme {l:List YBooking} (hb:Zr n l=true) {b:YBooking} (h:b∈l):Zc3 n b.trip=true:=by
 obtain ⟨i,hi,rfl⟩:=List.getElem_of_mem h
 have:=(Zg1 hb hi).1
 unfold bk1 at this
 rw [List.getElem?_eq_getElem hi] at this
 simp only [Bool.and_eq_true] at this
 exact this.1.1.1
end
theorem ZeH {l:List ByteArray} {p:ByteArray} (h:0≤idxV l p):getI l (idxV l p)=some p:=by
 unfold idxV at h ⊢
 cases h':l.findIdx? fun y=>decide (y=p) with
 | none=>rw [h'] at h; simp at h
 | some k=>
  obtain ⟨h1,h2,_⟩:=List.findIdx?_eq_some_iff_getElem.1 h'
  have h2:=of_decide_eq_true h2
  simp only [Option.elim]
  rw [Zd,List.getElem?_eq_getElem h1,h2]
theorem Zlx {α:Type} {xs:List α} {i j:Int} {v x:α} (hi:0≤i) (h:getI (xs.set (Int.toNat i) v) j=some x):(j=i∧x=v)∨getI xs j=some x:=by
 obtain ⟨h0,h1⟩:=getI_some h
 by_cases he:j=i
 ·subst he
  rw [List.getElem?_set_self'] at h1
  cases hx:xs[j.toNat]? with
  | none=>rw [hx] at h1; simp at h1
  | some y=>rw [hx] at h1; simp at h1; exact .inl ⟨rfl,h1.symm⟩
 ·refine .inr ?_
  rw [List.getElem?_set_ne (by omega)] at h1
  unfold getI; rw [if_pos h0]; exact h1
def Cand (n:YNetwork) (l:List YBooking) (closed:List YTrip) (weight f:Int) (r:List Int) (x v:Int):Prop:=
 ∃ (i:Nat) (y:YLeg) (d u z:Int),n.legs[i]?=some y∧idxV (Za n) y.to_=x∧getI r (idxV (Za n) y.from_)=some u∧¬ u<0∧ZR n u (decide (idxV (Za n) y.from_=f))=some z∧ZH n l closed (i:Int) z weight=some d∧¬ d<0∧Ze n ⟨(i:Int),d⟩=some v
section
variable {n:YNetwork} (hf:ZZ n)
include hf
theorem Ziv {l:List YBooking} (hl:l.length≤1048576) {closed:List YTrip} (hc:closed.length≤1048576) (weight:Int) {best:List Int} (hb:best.length=(Za n).length) (f:Int):Tot (Zaf n l closed weight (Za n) best f) fun r=>r.length=(Za n).length∧∀ x v,getI r x=some v→getI best x=some v∨Cand n l closed weight f best x v:=by
 have hp:=plen hf
 have hll:=hf.legs
 unfold Zaf
 refine Tot.bind (P:=fun r=>r=best) ?_ fun r hr=>?_
 ·by_cases h1:best.length≤1048576
  ·exact Tot.of (Zjx h1) rfl
  ·unfold Zbs
   exact Tot.chk (Zgu (by simp only [List.length_nil]; omega) (by omega)) (Tot.ret (by simp))
 ·subst hr
  refine Tot.bind (P:=fun o=>o.length=(Za n).length∧∀ x v,getI o x=some v→getI r x=some v∨Cand n l closed weight f r x v) ?_ fun o ho=>Tot.ret ho
  refine Tot.loop (fun (k:Nat) (s:Int × List Int)=>∃ i:Nat,s.1=(i:Int)∧i+k=n.legs.length∧s.2.length=(Za n).length∧∀ x v,getI s.2 x=some v→getI r x=some v∨Cand n l closed weight f r x v) (fun k s hs=>?_) NN n.legs.length _ ⟨0,rfl,by omega,hb,fun x v h=>.inl h⟩ (by unfold NN; omega)
  obtain ⟨i,hi,hk,hlen,hcd⟩:=hs
  unfold Zax
  rw [hi]
  refine Tot.cond (fun hd=>?_) fun hd=>Tot.ret ⟨hlen,hcd⟩
  have hlt:=of_decide_eq_true hd
  have hw:w64 ((i:Int)+1)=((i+1:Nat):Int):=by rw [Zc (by omega)]; omega
  obtain ⟨y,hy,hm⟩:=Zei (xs:=n.legs) (i:=(i:Int)) ⟨by omega,hlt⟩
  obtain ⟨m1,m2⟩:=ZeV hm
  have a0:=ZdG m1
  have a1:=(Zer (Za n) y.from_).2
  have b0:=ZdG m2
  have b1:=(Zer (Za n) y.to_).2
  obtain ⟨v6,g6,_⟩:=Zei (xs:=r) (i:=idxV (Za n) y.from_) ⟨a0,by omega⟩
  obtain ⟨v11,g11,_⟩:=Zei (xs:=s.2) (i:=idxV (Za n) y.to_) ⟨b0,by omega⟩
  simp only [hy,Option.bind_some,ZeU hf,g6,hw]
  have go:∀ (s':List Int),s'.length=(Za n).length→(∀ x v,getI s' x=some v→getI r x=some v∨Cand n l closed weight f r x v)→Zkj (fun (k:Nat) (s:Int × List Int)=>∃ i:Nat,s.1=(i:Int)∧i+k=n.legs.length∧s.2.length=(Za n).length∧∀ x v,getI s.2 x=some v→getI r x=some v∨Cand n l closed weight f r x v) (fun o:List Int=>o.length=(Za n).length∧∀ x v,getI o x=some v→getI r x=some v∨Cand n l closed weight f r x v) k (Sum.inl (((i+1:Nat):Int),s')):=fun s' h' h''=>⟨k-1,by omega,i+1,rfl,by omega,h',h''⟩
  refine Tot.cond (fun _=>Tot.ret (go _ hlen hcd)) fun hu=>?_
  obtain ⟨z,ez,_⟩:=Zgi (n:=n) v6 (decide (idxV (Za n) y.from_=f))
  obtain ⟨d,ed,_⟩:=Zir hf hl hc hy z weight
  rw [ez,Option.bind_some,ed,Option.bind_some]
  refine Tot.cond (fun _=>Tot.ret (go _ hlen hcd)) fun hdn=>?_
  obtain ⟨e,he⟩:=ZdF (n:=n) (t:=⟨(i:Int),d⟩) hy
  simp only [he,Option.bind_some,g11]
  have hyi:n.legs[i]?=some y:=by rw [Zd] at hy; exact hy
  have new:∀ x v,getI (s.2.set (Int.toNat (idxV (Za n) y.to_)) e) x=some v→getI r x=some v∨Cand n l closed weight f r x v:=fun x v h=>by
   rcases Zlx b0 h with ⟨rfl,rfl⟩ | h
   ·exact .inr ⟨i,y,d,v6,z,hyi,rfl,g6,of_decide_eq_false hu,ez,ed,of_decide_eq_false hdn,he⟩
   ·exact hcd x v h
  exact Tot.cond (fun _=>Tot.ret (go _ (by rw [List.length_set]; exact hlen) new)) fun _=>Tot.cond (fun _=>Tot.ret (go _ (by rw [List.length_set]; exact hlen) new)) fun _=>Tot.ret (go _ hlen hcd)
end
def ZlZ (n:YNetwork) (l:List YBooking) (closed:List YTrip) (weight f:Int) (r:List Int):List Int:=(Zaf n l closed weight (Za n) r f).getD []
def ZU (n:YNetwork) (l:List YBooking) (closed:List YTrip) (weight f at_:Int):Nat→List Int
 | 0=>(Zbw (Za n) f at_).getD []
 | k+1=>ZlZ n l closed weight f (ZU n l closed weight f at_ k)
section
variable {n:YNetwork} (hf:ZZ n) {l:List YBooking} (hl:l.length≤1048576) {closed:List YTrip} (hc:closed.length≤1048576) (weight f at_:Int)
include hf hl hc
theorem Zel:∀ k,(ZU n l closed weight f at_ k).length=(Za n).length
 | 0=>by
  obtain ⟨r,e,h⟩:=Zjp hf f at_
  unfold ZU; rw [e]; exact h
 | k+1=>by
  obtain ⟨r,e,h,_⟩:=Ziv hf hl hc weight (Zel k) f
  unfold ZU ZlZ; rw [e]; exact h
theorem Ze6 (k:Nat):Zaf n l closed weight (Za n) (ZU n l closed weight f at_ k) f=some (ZU n l closed weight f at_ (k+1))∧∀ x v,getI (ZU n l closed weight f at_ (k+1)) x=some v→getI (ZU n l closed weight f at_ k) x=some v∨Cand n l closed weight f (ZU n l closed weight f at_ k) x v:=by
 obtain ⟨r,e,h,h'⟩:=Ziv hf hl hc weight (Zel hf hl hc weight f at_ k) f
 have:ZU n l closed weight f at_ (k+1)=r:=by show (Zaf n l closed weight (Za n) (ZU n l closed weight f at_ k) f).getD []=r; rw [e]; rfl
 rw [this]
 exact ⟨e,h'⟩
theorem Zd8 {from_:ByteArray} (hC:Zr n l=true∧0≤idxV (Za n) from_∧at_≤100000∧1≤weight) {k:Nat} (hk:k≤(Za n).length):Zv n l closed from_ at_ weight (k:Int)=some (ZU n l closed weight (idxV (Za n) from_) at_ k):=by
 have hp:=plen hf
 obtain ⟨r0,e0,_⟩:=Zjp hf (idxV (Za n) from_) at_
 have h0:ZU n l closed weight (idxV (Za n) from_) at_ 0=r0:=by unfold ZU; rw [e0]; rfl
 unfold Zv
 rw [(ZaL hf).2]
 simp only [Option.bind_some,ZeU hf,Zb2 hf hl,hC.1,Bool.not_true,cond_false,decide_eq_false (show ¬ idxV (Za n) from_<0 by omega),decide_eq_false (show ¬ 100000<at_ by omega),decide_eq_false (show ¬ weight<1 by omega),decide_eq_false (show ¬ (k:Int)<0 by omega),e0]
 have e:iterF (Za7 n l closed weight (k:Int) (Za n) (idxV (Za n) from_)) NN (0,ZU n l closed weight (idxV (Za n) from_) at_ 0)=some (ZU n l closed weight (idxV (Za n) from_) at_ k):=by
  refine Zd6 (body:=Za7 n l closed weight (k:Int) (Za n) (idxV (Za n) from_)) (fun i:Nat=>((i:Int),ZU n l closed weight (idxV (Za n) from_) at_ i)) (n:=k) (o:=ZU n l closed weight (idxV (Za n) from_) at_ k) (fun i hi=>?_) ?_ NN (by unfold NN; omega)
  ·unfold Za7
   rw [decide_eq_true (show (i:Int)<(k:Int) by omega),decide_eq_true (show (i:Int)<((Za n).length:Int) by omega),cond_true,cond_true,(Ze6 hf hl hc weight _ at_ i).1,Option.bind_some,Zc (by omega)]
   rfl
  ·unfold Za7
   simp
 rw [← h0,e]; rfl
end
section
variable {n:YNetwork} (hf:ZZ n)
include hf
end
def ZcP (leg:Int) (at1_:Int) (c0_:YNetwork) (c1_:List YTrip) (c2_:List YBooking) (c3_:Int) (s0:Int):Option (Int ⊕ (Unit ⊕ (YTrip × Bool))):=
 cond (decide (s0≤60))
 ((Zdy c0_ leg s0).bind fun y1=>
 cond y1
 ((Zah c0_ (⟨leg,s0⟩:YTrip)).bind fun y2=>
 cond (decide (at1_≤y2))
 ((ZaC c1_ (⟨leg,s0⟩:YTrip)).bind fun y3=>
 cond (!y3)
 ((getI c0_.legs leg).bind fun y4=>
 (Zcw c2_ (⟨leg,s0⟩:YTrip)).bind fun y5=>
 cond (decide (c3_≤(w64 (y4.room-y5))))
 (some (.inr (.inr ((⟨leg,s0⟩:YTrip),true))))
 (some (.inl (w64 (s0+1)))))
 (some (.inl (w64 (s0+1)))))
 (some (.inl (w64 (s0+1)))))
 (some (.inl (w64 (s0+1)))))
 (some (.inr (.inl ())))
instance (leg:Int) (at1_:Int) (c0_:YNetwork) (c1_:List YTrip) (c2_:List YBooking) (c3_:Int):LoopE (ZcP leg at1_ c0_ c1_ c2_ c3_):=⟨fun s0=>(vi leg::vi at1_::.rp [.sl (c0_.legs.map cLeg),.sl (c0_.off.map cInt),vi c0_.change]::.rp [.sl (c1_.map cTrip)]::.rp [.sl (c2_.map cBooking)]::.rp [vi c3_]::.un::.un::.be 0 0 0::.un::vi s0::(U 41 [])),fun s0=>[some ⟨.of 55,2,[[vi 0,vi 0]]⟩]⟩
def Zcc (leg:Int) (at1_:Int) (c0_:YNetwork) (c1_:List YTrip) (c2_:List YBooking) (c3_:Int):Option (YTrip × Bool):=
 (iterF (ZcP leg at1_ c0_ c1_ c2_ c3_) NN 0).bind (selim (fun o0=>
 some ((⟨0,0⟩:YTrip),false)) (fun r=>some r))
instance (leg:Int) (at1_:Int) (c0_:YNetwork) (c1_:List YTrip) (c2_:List YBooking) (c3_:Int):CT Tryz.prog (Zcc leg at1_ c0_ c1_ c2_ c3_):=⟨238,[vi leg,vi at1_,.rp [.sl (c0_.legs.map cLeg),.sl (c0_.off.map cInt),vi c0_.change],.rp [.sl (c1_.map cTrip)],.rp [.sl (c2_.map cBooking)],.rp [vi c3_]],[],fun r=>.tu [.ag [vi r.1.leg,vi r.1.day],vb r.2],fun r=>[],fun H=>by replace H:=H0 H; unfold Zcc at H; exact callM_of Tryz.func238 rfl Tryz.ntmps238 Tryz.results238 fun Q hQ hQn=>wk3⟩
def ZbZ (n:YNetwork) (at1_:Int) (start:Bool):Option Int:=
 cond start
 (some at1_)
 (some (w64 (at1_+n.change)))
instance (n:YNetwork) (at1_:Int) (start:Bool):CT Tryz.prog (ZbZ n at1_ start):=⟨252,[.ag (cNetwork n),vi at1_,vb start],[],fun r=>vi r,fun r=>[],fun H=>by replace H:=H0 H; unfold ZbZ at H; exact callM_of Tryz.func252 rfl Tryz.ntmps252 Tryz.results252 fun Q hQ hQn=>wk3⟩
def Zap (n:YNetwork) (find0_:YNetwork) (find1_:List YTrip) (find2_:List YBooking) (find3_:Int) (at3_:Int) (legs:Int) (y1:List ByteArray) (y2:Int) (s0:Int × (List Int)):Option ((Int × (List Int)) ⊕ (List Int)):=
 cond (decide (s0.1<(y1.length:Int)))
 ((chk (appOk ((s0.2:List Int).length+([(-1)]:List Int).length) 8)).bind fun _=>
 some (.inl ((w64 (s0.1+1)),((s0.2:List Int)++[(-1)]))))
 (some (.inr s0.2))
instance (n:YNetwork) (find0_:YNetwork) (find1_:List YTrip) (find2_:List YBooking) (find3_:Int) (at3_:Int) (legs:Int) (y1:List ByteArray) (y2:Int):LoopE (Zap n find0_ find1_ find2_ find3_ at3_ legs y1 y2):=⟨fun s0=>(.un::.fn 238 [.rp [.sl (find0_.legs.map cLeg),.sl (find0_.off.map cInt),vi find0_.change],.rp [.sl (find1_.map cTrip)],.rp [.sl (find2_.map cBooking)],.rp [vi find3_]]::.un::vi at3_::vi legs::.be 0 0 0::(U 5 (.ms 1::vi y2::.ms 2::(U 26 (vi (y1.length:Int)::vi s0.1::(U 83 [])))))),fun s0=>[some ⟨.of 35,3,[[.sl (n.legs.map cLeg),.sl (n.off.map cInt),vi n.change]]⟩,some ⟨.of 9,1,y1.map cStr⟩,some ⟨.of 3,1,s0.2.map cInt⟩]⟩
def ZT (n:YNetwork) (find0_:YNetwork) (find1_:List YTrip) (find2_:List YBooking) (find3_:Int) (legs:Int) (y1:List ByteArray) (y2:Int) (s1:Int × (List Int)) (s2:Int × Bool × (List Int)):Option ((Int × Bool × (List Int)) ⊕ (Bool × (List Int))):=
 cond (decide (s2.1<(n.legs.length:Int)))
 ((getI n.legs s2.1).bind fun y4=>
 (Zk y1 y4.from_).bind fun y5=>
 (Zk y1 y4.to_).bind fun y6=>
 (getI s1.2 y5).bind fun y7=>
 cond (decide (y7<0))
 (some (.inl ((w64 (s2.1+1)),s2.2.1,s2.2.2)))
 ((getI s1.2 y5).bind fun y8=>
 (ZbZ n y8 (decide (y5=y2))).bind fun y9=>
 (Zcc s2.1 y9 find0_ find1_ find2_ find3_).bind fun y10=>
 cond y10.2
 ((getI s2.2.2 y6).bind fun y11=>
 cond (decide (y11<0))
 ((ZF n y10.1).bind fun y12=>
 (getI s2.2.2 y6).bind fun y13=>
 some (.inl ((w64 (s2.1+1)),true,(s2.2.2.set (Int.toNat y6) y12))))
 ((ZF n y10.1).bind fun y14=>
 (getI s2.2.2 y6).bind fun y15=>
 cond (decide (y14<y15))
 ((ZF n y10.1).bind fun y16=>
 (getI s2.2.2 y6).bind fun y17=>
 some (.inl ((w64 (s2.1+1)),true,(s2.2.2.set (Int.toNat y6) y16))))
 (some (.inl ((w64 (s2.1+1)),s2.2.1,s2.2.2)))))
 (some (.inl ((w64 (s2.1+1)),s2.2.1,s2.2.2)))))
 (some (.inr (s2.2.1,s2.2.2)))
instance (n:YNetwork) (find0_:YNetwork) (find1_:List YTrip) (find2_:List YBooking) (find3_:Int) (legs:Int) (y1:List ByteArray) (y2:Int) (s1:Int × (List Int)):LoopE (ZT n find0_ find1_ find2_ find3_ legs y1 y2 s1):=⟨fun s2=>(.un::.fn 238 [.rp [.sl (find0_.legs.map cLeg),.sl (find0_.off.map cInt),vi find0_.change],.rp [.sl (find1_.map cTrip)],.rp [.sl (find2_.map cBooking)],.rp [vi find3_]]::.un::.un::vi legs::.be 0 0 0::(U 5 (.ms 1::vi y2::.ms 2::vi s1.1::.ms 3::vb s2.2.1::(U 44 (.sl (n.legs.map cLeg)::vi (n.legs.length:Int)::vi s2.1::(U 61 [])))))),fun s2=>[some ⟨.of 35,3,[[.sl (n.legs.map cLeg),.sl (n.off.map cInt),vi n.change]]⟩,some ⟨.of 9,1,y1.map cStr⟩,some ⟨.of 3,1,s1.2.map cInt⟩,some ⟨.of 3,1,s2.2.2.map cInt⟩]⟩
def ZS (n:YNetwork) (find0_:YNetwork) (find1_:List YTrip) (find2_:List YBooking) (find3_:Int) (legs:Int) (y1:List ByteArray) (y2:Int) (s1:Int × (List Int)):Option ((Int × (List Int)) ⊕ (List Int)):=
 cond (decide (s1.1<legs))
 ((chk (appOk ((([]:List Int):List Int).length+(s1.2:List Int).length) 8)).bind fun _=>
 (iterF (ZT n find0_ find1_ find2_ find3_ legs y1 y2 s1) NN (0,false,((([]:List Int):List Int)++s1.2))).bind (fun o2=>
 cond (!o2.1)
 (some (.inr o2.2))
 (some (.inl ((w64 (s1.1+1)),o2.2)))))
 (some (.inr s1.2))
instance (n:YNetwork) (find0_:YNetwork) (find1_:List YTrip) (find2_:List YBooking) (find3_:Int) (legs:Int) (y1:List ByteArray) (y2:Int):LoopE (ZS n find0_ find1_ find2_ find3_ legs y1 y2):=⟨fun s1=>(.un::.fn 238 [.rp [.sl (find0_.legs.map cLeg),.sl (find0_.off.map cInt),vi find0_.change],.rp [.sl (find1_.map cTrip)],.rp [.sl (find2_.map cBooking)],.rp [vi find3_]]::.un::.un::vi legs::.be 0 0 0::(U 5 (.ms 1::vi y2::.ms 2::vi s1.1::(U 110 [])))),fun s1=>[some ⟨.of 35,3,[[.sl (n.legs.map cLeg),.sl (n.off.map cInt),vi n.change]]⟩,some ⟨.of 9,1,y1.map cStr⟩,some ⟨.of 3,1,s1.2.map cInt⟩]⟩
def Zat (n:YNetwork) (find0_:YNetwork) (find1_:List YTrip) (find2_:List YBooking) (find3_:Int) (from2_:ByteArray) (at3_:Int) (legs:Int):Option (List Int):=
 (ZD n).bind fun y1=>
 (Zk y1 from2_).bind fun y2=>
 cond (decide (y2<0))
 (some ([]))
 (cond (decide (100000<at3_))
 (some ([]))
 (cond (decide (legs<0))
 (some ([]))
 ((iterF (Zap n find0_ find1_ find2_ find3_ at3_ legs y1 y2) NN (0,([]:List Int))).bind (fun o0=>
 (getI o0 y2).bind fun y3=>
 (iterF (ZS n find0_ find1_ find2_ find3_ legs y1 y2) NN (0,(o0.set (Int.toNat y2) (if 0 > at3_ then 0 else at3_)))).bind (fun o1=>
 some o1)))))
instance (n:YNetwork) (find0_:YNetwork) (find1_:List YTrip) (find2_:List YBooking) (find3_:Int) (from2_:ByteArray) (at3_:Int) (legs:Int):CT Tryz.prog (Zat n find0_ find1_ find2_ find3_ from2_ at3_ legs):=⟨216,[.ag (cNetwork n),.fn 238 [.rp [.sl (find0_.legs.map cLeg),.sl (find0_.off.map cInt),vi find0_.change],.rp [.sl (find1_.map cTrip)],.rp [.sl (find2_.map cBooking)],.rp [vi find3_]],vs from2_,vi at3_,vi legs],[],fun r=>.ms 0,fun r=>[some ⟨.of 3,1,r.map cInt⟩],fun H=>by replace H:=H0 H; unfold Zat at H; exact callM_of Tryz.func216 rfl Tryz.ntmps216 Tryz.results216 fun Q hQ hQn=>wk3⟩
end Go.Proofs.YtmcdjilbkmhfoaaGreat
