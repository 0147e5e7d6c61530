/- A part of the proof of the statement in the last file of this claim: texts on the language of the program and on its functions. No condition. -/
import Derived.Test.YtmcdjilbkmhfoaaGreatCRetryOrders3
import Derived.Test.YtmcdjilbkmhfoaaGreatCRetryOrders4
import Derived.Test.YtmcdjilbkmhfoaaGreatProg
import Derived.Laws.BytesArg
import Derived.Test.YtmcdjilbkmhfoaaGreatCRetryOrders5
set_option linter.unusedVariables false
set_option linter.unusedSimpArgs false
namespace Go.Proofs.YtmcdjilbkmhfoaaGreat
set_option maxRecDepth 10000
open Go.RowKit
set_option linter.unusedVariables false
set_option linter.unusedSimpArgs false
abbrev AllS (w:World):Nat→Prop:=fun b=>b<w.heap.size
theorem Zrt {w:World} {E:Env} {p:PV} {x:Value} (h:Rep w E p x) (hp:isC1 p=true):RepC w E.S p x:=by
 cases h with
 | c h=>exact h
 | ms=>cases hp
 | ss=>cases hp
 | be=>cases hp
 | ag=>cases hp
 | tu=>cases hp
 | fn=>cases hp
theorem Zez {b:Nat}:¬ own0 (fun _=>none) b:=by rintro ⟨l,B,h,_⟩; cases h
theorem ZlN (w:World):Ok w (own0 fun _=>none) (E1 (AllS w) (fun _=>none) 0) w []:=
 ⟨UpO.refl _ _,fun b h=>h,fun l B h=>(by cases h),fun l l' B B' h=>(by cases h),fun l h=>absurd h (Nat.not_lt_zero l),fun l B h=>(by cases h),fun l mb h=>(by simp at h),fun l B h=>(by cases h),tab0,fun _ _ h=>h.elim⟩
theorem Zgq {w w':World} {E:Env} {m:Mem} (h:Ok w (own0 fun _=>none) E w' m):Up w w':=⟨h.up.os,h.up.tape,h.up.output,h.up.size,fun b hb=>h.up.block b hb Zez⟩
variable {P:Program}
theorem ok_S {w:World} {S:Nat→Prop} (hS:∀ b,S b→b<w.heap.size):Ok w (own0 fun _=>none) (E1 S (fun _=>none) 0) w []:=
 ⟨UpO.refl _ _,hS,fun l B h=>(by cases h),fun l l' B B' h=>(by cases h),fun l h=>absurd h (Nat.not_lt_zero l),fun l B h=>(by cases h),fun l mb h=>(by simp at h),fun l B h=>(by cases h),tab0,fun _ _ h=>h.elim⟩
abbrev NewS (S:Nat→Prop) (w w':World):Nat→Prop:=fun b=>S b∨(w.heap.size≤b∧b<w'.heap.size)
theorem CallM.fresh {f:FuncId} {args:List PV} {T:TypeId} {k:Nat} {es:List (List PV)} (h:CallM P f args [] (.ms 0) [some ⟨T,k,es⟩]) (hes:∀ cs∈es,∀ p∈cs,isC1 p=true) {w:World} {S:Nat→Prop} (hS:∀ b,S b→b<w.heap.size) {vs:Array Value} (hl:vs.size=args.length) (ha:∀ (i:Nat) (p:PV),args[i]?=some p→∃ x,vs[i]?=some x∧Rep w (E1 S (fun _=>none) 0) p x):
 Calls P f vs w fun e w'=>∃ v,e=.returned v∧Up w w'∧Zak w' w.heap.size T k v es.length∧RepC w' (NewS S w w') (.sl es) v:=by
 refine (h S (fun _=>none) w vs (fun _ _=>False) (ok_S hS) hl ha).mono ?_
 rintro e w' ⟨v,E',rfl,hk,_,hS2,_,hr⟩
 refine ⟨v,rfl,Zgq hk,?_⟩
 obtain ⟨B,hB,hb,rfl⟩:=hr.ms_inv hk (l:=0) rfl
 have hkk:=hb.k
 have hn:=hb.n
 have hT:=hb.T
 simp only at hkk hn hT
 cases hz:B.z with
 | true=>
  have h0:es=[]:=hb.nil hz
  subst h0
  have hsv:B.sv=.slice none 0 0:=by simp [Blk.sv,hz]
  rw [hsv]
  exact ⟨.inl ⟨0,rfl,rfl⟩,.nil _ _⟩
 | false=>
  have hsv:B.sv=.slice (some ⟨B.b,0,none⟩) es.length B.c:=by simp [Blk.sv,hz,hn]
  rw [hsv]
  obtain ⟨cells,hc,hcs,hcell⟩:=hb.mem hz
  have hown:=hk.own 0 B hB hz
  have hfr:w.heap.size≤B.b:=by
   rcases hown.1 with h | h
   ·exact absurd h Zez
   ·exact h
  have hnc:es.length≤B.c:=by rw [← hn]; exact hb.nc
  refine ⟨.inr ⟨B.b,B.c,cells,rfl,hfr,by rw [hc,hT]; rfl,?_⟩,?_⟩
  ·rw [hcs,hkk]; exact Nat.mul_le_mul_right _ hnc
  ·have hat:∀ (i:Nat) (cs:List PV) (j:Nat) (p:PV),es[i]?=some cs→cs[j]?=some p→∃ x,w'.cell? ⟨B.b,0+i*k+j,none⟩=some x∧x.oneCell'=true∧RepC w' (NewS S w w') p x:=by
    intro i cs j p hi hj
    obtain ⟨x,x1,x2,x3⟩:=hcell i cs j p hi hj
    rw [hkk] at x1
    refine ⟨x,by rw [Nat.zero_add,cell_of_row w' B.b _ cells B.T (0,0) hc,x1],x2,?_⟩
    refine (Zrt x3 (hes cs (List.mem_of_getElem? hi) p (List.mem_of_getElem? hj))).ext (fun b hb=>?_) (fun _ _ _=>rfl)
    rcases hS2 b hb with h | h | h
    ·exact .inl h
    ·exact .inr ⟨h,hk.sz b hb⟩
    ·exact absurd h Zez
   exact .sl es B.b 0 k B.c (fun i j=>(w'.cell? ⟨B.b,0+i*k+j,none⟩).getD .nilIface) (.inr ⟨hfr,hown.2.1⟩) (by rw [← hkk]; exact hb.pos) hnc hb.cm (fun i cs hi=>by rw [← hkk]; exact hb.es i cs hi)
    (fun i cs j p hi hj=>by obtain ⟨x,x1,_⟩:=hat i cs j p hi hj; rw [x1]; rfl)
    (fun i cs j p hi hj=>by obtain ⟨x,x1,x2,_⟩:=hat i cs j p hi hj; rw [x1]; exact x2)
    (fun i cs j p hi hj=>by obtain ⟨x,x1,_,x3⟩:=hat i cs j p hi hj; rw [x1]; exact x3)
structure Wr (g:Nat) (T:TypeId) (w1 w2:World) (cs:Array Value):Prop where
 row:w2.heap[g]?=some (.cells cs T (0,0))
 os:w2.os=w1.os
 tape:w2.tape=w1.tape
 output:w2.output=w1.output
 size:w2.heap.size=w1.heap.size
 oth:∀ b,b≠g→w2.heap[b]?=w1.heap[b]?
theorem Wr.start {g:Nat} {T:TypeId} {w:World} {cs:Array Value} (h:w.heap[g]?=some (.cells cs T (0,0))):Wr g T w w cs:=⟨h,rfl,rfl,rfl,rfl,fun _ _=>rfl⟩
theorem Wr.set {g:Nat} {T:TypeId} {w1 w2:World} {cs:Array Value} (h:Wr g T w1 w2 cs) (j:Nat) (v:Value):Wr g T w1 (w2.setCell ⟨g,j,none⟩ v) (cs.setIfInBounds j v):=
 ⟨heap_setCell_same w2 g j cs T v h.row,h.os,h.tape,h.output,by rw [World.size_setCell]; exact h.size,fun b hb=>(heap_setCell_other w2 ⟨g,j,none⟩ b v hb).trans (h.oth b hb)⟩
theorem RepC.wr {g:Nat} {T:TypeId} {w1 w2:World} {cs:Array Value} {S:Nat→Prop} {p:PV} {x:Value} (h:RepC w1 S p x) (k:Wr g T w1 w2 cs) (hS:∀ b,S b→b≠g):RepC w2 S p x:=
 h.ext (fun _ hb=>hb) (fun b o hb=>Zbt (k.oth b (hS b hb)))
theorem Zak.wr {g:Nat} {T T':TypeId} {w1 w2:World} {cs cs0:Array Value} {B k n:Nat} {x:Value} (h:Zak w1 B T' k x n) (hk:Wr g T w1 w2 cs) (h0:w1.heap[g]?=some (.cells cs0 T (0,0))) (hT:T'≠T):Zak w2 B T' k x n:=by
 rcases h with h | ⟨b,c,cs',h1,h2,h3,h4⟩
 ·exact .inl h
 ·refine .inr ⟨b,c,cs',h1,h2,(hk.oth b ?_).trans h3,h4⟩
  rintro rfl
  rw [h3] at h0
  simp at h0
  exact hT h0.2
end Go.Proofs.YtmcdjilbkmhfoaaGreat
namespace Go.Proofs.YtmcdjilbkmhfoaaGreat
set_option maxRecDepth 10000
open Go.RowKit
set_option linter.unusedVariables false
set_option linter.unusedSimpArgs false
theorem ZdD (k:Int) (w:World) (h0:1≤k) (h1:k≤1099511627776):Calls Tryz.prog 176 #[.int .i64 k] w fun e w'=>∃ s:ByteArray,e=.returned (.string s)∧Up w w':=by
 go_enter Tryz.func176,Tryz.ntmps176
 have hk:¬ k≤0:=by omega
 go_wp2
 go_loopw [3,0] (fun out kk wr=>∃ (m:Nat) (s:ByteArray),kk=.int .i64 m∧out=.string s∧s.size+m≤1099511627777∧Up w wr) (fun _ kk _=>(intOf kk).toNat)
 case atStart=>exact ⟨k.toNat,⟨#[]⟩,by congr 1; omega,rfl,by show (0:Nat)+k.toNat≤_; omega,by (repeat (first | exact Up.rfl' _ | (refine Up.al _ ?_) | (refine Up.dr _ ?_) | (refine Up.dr1 ?_) | (refine Up.sc ?_ (by first | exact Nat.le_refl _ | (simp; done) | omega) _) | (refine Up.step (by assumption) ?_)))⟩
 case round=>
  obtain ⟨m,s,rfl,rfl,hm,hb⟩:=hrel
  by_cases hlt:0<m
  ·have hcv:=run_convert_bytes_arg (P:=Tryz.prog) (wr.alloc (.cells #[.int .u8 (48+(m:Int) % 10)] 5)) 47 5 Tryz.underlying47 Tryz.underlying5 wr.heap.size 0 1 1 [48+(m:Int) % 10] rfl (fun i hi=>(by obtain rfl:i=0:=(by omega); simp [go_sem])) 9 Tryz.underlying9
   have hsz:(strOfNums [48+(m:Int) % 10]).size=1:=by simp [strOfNums,ByteArray.size]
   go_wp2
   exact ⟨⟨m / 10,_,by congr 1,rfl,by rw [ByteArray.size_append,hsz]; omega,by (repeat (first | exact Up.rfl' _ | (refine Up.al _ ?_) | (refine Up.dr _ ?_) | (refine Up.dr1 ?_) | (refine Up.sc ?_ (by first | exact Nat.le_refl _ | (simp; done) | omega) _) | (refine Up.step (by assumption) ?_)))⟩,by simp [intOf]; omega⟩
  ·obtain rfl:m=0:=by omega
   go_wp2
   go_ret
   exact ⟨_,rfl,hb⟩
def KPT (T:TypeId) (j:Nat):Prop:=(T=62∧j % 11=6)∨T=35∨T=41
theorem ZgN {T:TypeId} {j:Nat} (h1:T≠62) (h2:T≠35) (h3:T≠41):¬ KPT T j:=by
 rintro (⟨h,_⟩ | h | h)
 ·exact h1 h
 ·exact h2 h
 ·exact h3 h
theorem ZeN {j:Nat} (h:KPT 62 j):j % 11=6:=by
 rcases h with ⟨_,h⟩ | h | h
 ·exact h
 ·exact absurd h (by decide)
 ·exact absurd h (by decide)
set_option maxRecDepth 100000 in
theorem ZhJ (v:Value) (n:Nat) (k:Int) {D:Nat→Prop} (w:World) (hs:Zdf w D 3 1 v n) (hn:n≤1048576) (h0:1≤k) (h1:k≤68719476736):
 Calls Tryz.prog 95 #[v,.int .i64 k] w fun e w'=>e=.returned (.int .i64 (k+1*(n:Int)))∧Mk KPT D w w':=by
 rcases hs with ⟨c,rfl,rfl⟩ | ⟨g,c,cs,rfl,hBg,hg,hsz⟩
 ·have HZ:=Lib.hid (show k=k+1*((0:Nat):Int) by omega)
  go_enter Tryz.func95,Tryz.ntmps95
  go_wp2
  go_loopw [5,1] (fun i kk wr=>i=.int .i64 0∧kk=.int .i64 k∧wr=w) (fun _ _ _=>0)
  case atStart=>exact ⟨rfl,rfl,rfl⟩
  case round=>
   obtain ⟨rfl,rfl,rfl⟩:=hrel
   go_wp2
   go_ret
   exact ⟨reti HZ.out,Mk.rfl'⟩
 ·have hR:RowA w g (n*1) 3:=⟨cs,hg,hsz⟩
  clear hg hsz
  go_enter Tryz.func95,Tryz.ntmps95
  go_wp2
  go_loopw [5,1] (fun i kk wr=>∃ j:Nat,j≤n∧i=.int .i64 j∧kk=.int .i64 (k+1*(j:Int))∧Mk KPT D w wr) (fun i _ _=>n-(intOf i).toNat)
  case atStart=>exact ⟨0,by omega,rfl,by congr 1; omega,Mk.rfl'⟩
  case round=>
   obtain ⟨j,hj,rfl,rfl,hM0⟩:=hrel
   by_cases hlt:j<n
   ·have hR0:=hR.mk hM0
    obtain ⟨⟨u0,d0⟩,f0⟩:=hR0.cell (j:=j) (by omega)
    go_wp2_with fail
    exact ⟨⟨j+1,by omega,by go_num,by congr 1 <;> omega,by (repeat (first | with_reducible exact hM0 | (with_reducible refine Mk.setR (m:=n*1) (T:=3) ?_ (by repeat (first | with_reducible exact hR0 | (with_reducible refine RowA.keep ?_ _))) hBg (ZgN (by decide) (by decide) (by decide)) _)))⟩,by simp [intOf]; omega⟩
   ·obtain rfl:j=n:=by omega
    go_wp2_with fail
    go_ret
    exact ⟨rfl,hM0⟩
set_option maxRecDepth 100000 in
theorem ZgP (v:Value) (n:Nat) (k:Int) {D:Nat→Prop} (w:World) (hs:Zdf w D 55 2 v n) (hn:n≤1048576) (h0:1≤k) (h1:k≤68719476736):
 Calls Tryz.prog 93 #[v,.int .i64 k] w fun e w'=>e=.returned (.int .i64 (k+2*(n:Int)))∧Mk KPT D w w':=by
 rcases hs with ⟨c,rfl,rfl⟩ | ⟨g,c,cs,rfl,hBg,hg,hsz⟩
 ·have HZ:=Lib.hid (show k=k+2*((0:Nat):Int) by omega)
  go_enter Tryz.func93,Tryz.ntmps93
  go_wp2
  go_loopw [5,1] (fun i kk wr=>i=.int .i64 0∧kk=.int .i64 k∧wr=w) (fun _ _ _=>0)
  case atStart=>exact ⟨rfl,rfl,rfl⟩
  case round=>
   obtain ⟨rfl,rfl,rfl⟩:=hrel
   go_wp2
   go_ret
   exact ⟨reti HZ.out,Mk.rfl'⟩
 ·have hR:RowA w g (n*2) 55:=⟨cs,hg,hsz⟩
  clear hg hsz
  go_enter Tryz.func93,Tryz.ntmps93
  go_wp2
  go_loopw [5,1] (fun i kk wr=>∃ j:Nat,j≤n∧i=.int .i64 j∧kk=.int .i64 (k+2*(j:Int))∧Mk KPT D w wr) (fun i _ _=>n-(intOf i).toNat)
  case atStart=>exact ⟨0,by omega,rfl,by congr 1; omega,Mk.rfl'⟩
  case round=>
   obtain ⟨j,hj,rfl,rfl,hM0⟩:=hrel
   by_cases hlt:j<n
   ·have hR0:=hR.mk hM0
    obtain ⟨⟨u0,d0⟩,f0⟩:=hR0.cell (j:=j*2) (by omega)
    obtain ⟨⟨u1,d1⟩,f1⟩:=hR0.cell (j:=j*2+1) (by omega)
    go_wp2_with fail
    exact ⟨⟨j+1,by omega,by go_num,by congr 1 <;> omega,by (repeat (first | with_reducible exact hM0 | (with_reducible refine Mk.setR (m:=n*2) (T:=55) ?_ (by repeat (first | with_reducible exact hR0 | (with_reducible refine RowA.keep ?_ _))) hBg (ZgN (by decide) (by decide) (by decide)) _)))⟩,by simp [intOf]; omega⟩
   ·obtain rfl:j=n:=by omega
    go_wp2_with fail
    go_ret
    exact ⟨rfl,hM0⟩
set_option maxRecDepth 100000 in
theorem ZhI (v:Value) (n:Nat) (k:Int) {D:Nat→Prop} (w:World) (hs:Zdf w D 135 4 v n) (hn:n≤1048576) (h0:1≤k) (h1:k≤68719476736):
 Calls Tryz.prog 92 #[v,.int .i64 k] w fun e w'=>e=.returned (.int .i64 (k+4*(n:Int)))∧Mk KPT D w w':=by
 rcases hs with ⟨c,rfl,rfl⟩ | ⟨g,c,cs,rfl,hBg,hg,hsz⟩
 ·have HZ:=Lib.hid (show k=k+4*((0:Nat):Int) by omega)
  go_enter Tryz.func92,Tryz.ntmps92
  go_wp2
  go_loopw [5,1] (fun i kk wr=>i=.int .i64 0∧kk=.int .i64 k∧wr=w) (fun _ _ _=>0)
  case atStart=>exact ⟨rfl,rfl,rfl⟩
  case round=>
   obtain ⟨rfl,rfl,rfl⟩:=hrel
   go_wp2
   go_ret
   exact ⟨reti HZ.out,Mk.rfl'⟩
 ·have hR:RowA w g (n*4) 135:=⟨cs,hg,hsz⟩
  clear hg hsz
  go_enter Tryz.func92,Tryz.ntmps92
  go_wp2
  go_loopw [5,1] (fun i kk wr=>∃ j:Nat,j≤n∧i=.int .i64 j∧kk=.int .i64 (k+4*(j:Int))∧Mk KPT D w wr) (fun i _ _=>n-(intOf i).toNat)
  case atStart=>exact ⟨0,by omega,rfl,by congr 1; omega,Mk.rfl'⟩
  case round=>
   obtain ⟨j,hj,rfl,rfl,hM0⟩:=hrel
   by_cases hlt:j<n
   ·have hR0:=hR.mk hM0
    obtain ⟨⟨u0,d0⟩,f0⟩:=hR0.cell (j:=j*4) (by omega)
    obtain ⟨⟨u1,d1⟩,f1⟩:=hR0.cell (j:=j*4+1) (by omega)
    obtain ⟨⟨u2,d2⟩,f2⟩:=hR0.cell (j:=j*4+2) (by omega)
    obtain ⟨⟨u3,d3⟩,f3⟩:=hR0.cell (j:=j*4+3) (by omega)
    go_wp2_with fail
    exact ⟨⟨j+1,by omega,by go_num,by congr 1 <;> omega,by (repeat (first | with_reducible exact hM0 | (with_reducible refine Mk.setR (m:=n*4) (T:=135) ?_ (by repeat (first | with_reducible exact hR0 | (with_reducible refine RowA.keep ?_ _))) hBg (ZgN (by decide) (by decide) (by decide)) _)))⟩,by simp [intOf]; omega⟩
   ·obtain rfl:j=n:=by omega
    go_wp2_with fail
    go_ret
    exact ⟨rfl,hM0⟩
set_option maxRecDepth 100000 in
theorem ZkD (v:Value) (n:Nat) (k:Int) {D:Nat→Prop} (w:World) (hs:Zdf w D 67 6 v n) (hn:n≤1048576) (h0:1≤k) (h1:k≤68719476736):
 Calls Tryz.prog 175 #[v,.int .i64 k] w fun e w'=>e=.returned (.int .i64 (k+6*(n:Int)))∧Mk KPT D w w':=by
 rcases hs with ⟨c,rfl,rfl⟩ | ⟨g,c,cs,rfl,hBg,hg,hsz⟩
 ·have HZ:=Lib.hid (show k=k+6*((0:Nat):Int) by omega)
  go_enter Tryz.func175,Tryz.ntmps175
  go_wp2
  go_loopw [5,1] (fun i kk wr=>i=.int .i64 0∧kk=.int .i64 k∧wr=w) (fun _ _ _=>0)
  case atStart=>exact ⟨rfl,rfl,rfl⟩
  case round=>
   obtain ⟨rfl,rfl,rfl⟩:=hrel
   go_wp2
   go_ret
   exact ⟨reti HZ.out,Mk.rfl'⟩
 ·have hR:RowA w g (n*6) 67:=⟨cs,hg,hsz⟩
  clear hg hsz
  go_enter Tryz.func175,Tryz.ntmps175
  go_wp2
  go_loopw [5,1] (fun i kk wr=>∃ j:Nat,j≤n∧i=.int .i64 j∧kk=.int .i64 (k+6*(j:Int))∧Mk KPT D w wr) (fun i _ _=>n-(intOf i).toNat)
  case atStart=>exact ⟨0,by omega,rfl,by congr 1; omega,Mk.rfl'⟩
  case round=>
   obtain ⟨j,hj,rfl,rfl,hM0⟩:=hrel
   by_cases hlt:j<n
   ·have hR0:=hR.mk hM0
    go_wp2_with fail
    refine (ZdD _ _ (by omega) (by omega)).mono ?_
    rintro e w1 ⟨s1,rfl,hb1⟩
    have hM1:Mk KPT D w w1:=Mk.up (by (repeat (first | with_reducible exact hM0 | (with_reducible refine Mk.setR (m:=n*6) (T:=67) ?_ (by repeat (first | with_reducible exact hR0 | (with_reducible refine RowA.keep ?_ _))) hBg (ZgN (by decide) (by decide) (by decide)) _)))) hb1
    have hR1:RowA w1 g (n*6) 67:=hR.mk hM1
    clear hb1
    obtain ⟨⟨u0,d0⟩,f0⟩:=hR1.cell (j:=j*6) (by omega)
    go_wp2_with fail
    refine (ZdD _ _ (by omega) (by omega)).mono ?_
    rintro e w2 ⟨s2,rfl,hb2⟩
    have hM2:Mk KPT D w w2:=Mk.up (by (repeat (first | with_reducible exact hM1 | (with_reducible refine Mk.setR (m:=n*6) (T:=67) ?_ (by repeat (first | with_reducible exact hR1 | (with_reducible refine RowA.keep ?_ _))) hBg (ZgN (by decide) (by decide) (by decide)) _)))) hb2
    have hR2:RowA w2 g (n*6) 67:=hR.mk hM2
    clear hb2
    obtain ⟨⟨u1,d1⟩,f1⟩:=hR2.cell (j:=j*6+1) (by omega)
    obtain ⟨⟨u2,d2⟩,f2⟩:=hR2.cell (j:=j*6+2) (by omega)
    obtain ⟨⟨u3,d3⟩,f3⟩:=hR2.cell (j:=j*6+3) (by omega)
    obtain ⟨⟨u4,d4⟩,f4⟩:=hR2.cell (j:=j*6+4) (by omega)
    obtain ⟨⟨u5,d5⟩,f5⟩:=hR2.cell (j:=j*6+5) (by omega)
    go_wp2_with fail
    exact ⟨⟨j+1,by omega,by go_num,by congr 1 <;> omega,by (repeat (first | with_reducible exact hM2 | (with_reducible refine Mk.setR (m:=n*6) (T:=67) ?_ (by repeat (first | with_reducible exact hR2 | (with_reducible refine RowA.keep ?_ _))) hBg (ZgN (by decide) (by decide) (by decide)) _)))⟩,by simp [intOf]; omega⟩
   ·obtain rfl:j=n:=by omega
    go_wp2_with fail
    go_ret
    exact ⟨rfl,hM0⟩
set_option maxRecDepth 100000 in
theorem ZjK (v:Value) (n:Nat) (k:Int) {D:Nat→Prop} (w:World) (hs:Zdf w D 130 6 v n) (hn:n≤1048576) (h0:1≤k) (h1:k≤68719476736):
 Calls Tryz.prog 94 #[v,.int .i64 k] w fun e w'=>e=.returned (.int .i64 (k+6*(n:Int)))∧Mk KPT D w w':=by
 rcases hs with ⟨c,rfl,rfl⟩ | ⟨g,c,cs,rfl,hBg,hg,hsz⟩
 ·have HZ:=Lib.hid (show k=k+6*((0:Nat):Int) by omega)
  go_enter Tryz.func94,Tryz.ntmps94
  go_wp2
  go_loopw [5,1] (fun i kk wr=>i=.int .i64 0∧kk=.int .i64 k∧wr=w) (fun _ _ _=>0)
  case atStart=>exact ⟨rfl,rfl,rfl⟩
  case round=>
   obtain ⟨rfl,rfl,rfl⟩:=hrel
   go_wp2
   go_ret
   exact ⟨reti HZ.out,Mk.rfl'⟩
 ·have hR:RowA w g (n*6) 130:=⟨cs,hg,hsz⟩
  clear hg hsz
  go_enter Tryz.func94,Tryz.ntmps94
  go_wp2
  go_loopw [5,1] (fun i kk wr=>∃ j:Nat,j≤n∧i=.int .i64 j∧kk=.int .i64 (k+6*(j:Int))∧Mk KPT D w wr) (fun i _ _=>n-(intOf i).toNat)
  case atStart=>exact ⟨0,by omega,rfl,by congr 1; omega,Mk.rfl'⟩
  case round=>
   obtain ⟨j,hj,rfl,rfl,hM0⟩:=hrel
   by_cases hlt:j<n
   ·have hR0:=hR.mk hM0
    obtain ⟨⟨u0,d0⟩,f0⟩:=hR0.cell (j:=j*6) (by omega)
    obtain ⟨⟨u1,d1⟩,f1⟩:=hR0.cell (j:=j*6+1) (by omega)
    obtain ⟨⟨u2,d2⟩,f2⟩:=hR0.cell (j:=j*6+2) (by omega)
    go_wp2_with fail
    refine (ZdD _ _ (by omega) (by omega)).mono ?_
    rintro e w1 ⟨s1,rfl,hb1⟩
    have hM1:Mk KPT D w w1:=Mk.up (by (repeat (first | with_reducible exact hM0 | (with_reducible refine Mk.setR (m:=n*6) (T:=130) ?_ (by repeat (first | with_reducible exact hR0 | (with_reducible refine RowA.keep ?_ _))) hBg (ZgN (by decide) (by decide) (by decide)) _)))) hb1
    have hR1:RowA w1 g (n*6) 130:=hR.mk hM1
    clear hb1
    obtain ⟨⟨u3,d3⟩,f3⟩:=hR1.cell (j:=j*6+3) (by omega)
    obtain ⟨⟨u4,d4⟩,f4⟩:=hR1.cell (j:=j*6+4) (by omega)
    obtain ⟨⟨u5,d5⟩,f5⟩:=hR1.cell (j:=j*6+5) (by omega)
    go_wp2_with fail
    exact ⟨⟨j+1,by omega,by go_num,by congr 1 <;> omega,by (repeat (first | with_reducible exact hM1 | (with_reducible refine Mk.setR (m:=n*6) (T:=130) ?_ (by repeat (first | with_reducible exact hR1 | (with_reducible refine RowA.keep ?_ _))) hBg (ZgN (by decide) (by decide) (by decide)) _)))⟩,by simp [intOf]; omega⟩
   ·obtain rfl:j=n:=by omega
    go_wp2_with fail
    go_ret
    exact ⟨rfl,hM0⟩
def OrdS (w:World) (B:Nat) (v:Value) (ms:List Nat):Prop:=
 (∃ c,v=.slice none 0 c∧ms=[])∨∃ (g c:Nat) (cs:Array Value),v=.slice (some ⟨g,0,none⟩) ms.length c∧B≤g∧w.heap[g]?=some (.cells cs 62 (0,0))∧ms.length*11≤cs.size∧∀ j m,ms[j]?=some m→∃ u,cs[j*11+6]?=some u∧Zak w B 55 2 u m
def OrdD (w:World) (D:Nat→Prop) (v:Value) (ms:List Nat):Prop:=
 (∃ c,v=.slice none 0 c∧ms=[])∨∃ (g c:Nat) (cs:Array Value),v=.slice (some ⟨g,0,none⟩) ms.length c∧D g∧w.heap[g]?=some (.cells cs 62 (0,0))∧ms.length*11≤cs.size∧∀ j m,ms[j]?=some m→∃ u,cs[j*11+6]?=some u∧Zdf w D 55 2 u m
theorem OrdS.toD {w:World} {B:Nat} {v:Value} {ms:List Nat} (h:OrdS w B v ms):OrdD w (fun b=>B≤b∧b<w.heap.size) v ms:=by
 rcases h with h | ⟨g,c,cs,h1,h2,h3,h4,h5⟩
 ·exact .inl h
 ·exact .inr ⟨g,c,cs,h1,⟨h2,(Array.getElem?_eq_some_iff.1 h3).1⟩,h3,h4,fun j m hj=>by
   obtain ⟨u,u1,u2⟩:=h5 j m hj
   exact ⟨u,u1,u2.toD⟩⟩
theorem OrdD.mk {w a:World} {D:Nat→Prop} {v:Value} {ms:List Nat} {D':Nat→Prop} (h:OrdD w D v ms) (m:Mk KPT D' w a):OrdD a D v ms:=by
 rcases h with h | ⟨g,c,cs,h1,h2,h3,h4,h5⟩
 ·exact .inl h
 ·obtain ⟨c1,k1,k2,k3⟩:=m.row g cs _ h3
  exact .inr ⟨g,c,c1,h1,h2,k1,by omega,fun j n hj=>by
   obtain ⟨u,u1,u2⟩:=h5 j n hj
   exact ⟨u,(k3 _ (.inl ⟨rfl,by omega⟩)).trans u1,u2.mk m⟩⟩
theorem OrdD.up {w a:World} {D:Nat→Prop} {v:Value} {ms:List Nat} (h:OrdD w D v ms) (m:Up w a):OrdD a D v ms:=by
 rcases h with h | ⟨g,c,cs,h1,h2,h3,h4,h5⟩
 ·exact .inl h
 ·exact .inr ⟨g,c,cs,h1,h2,(m.block g (Array.getElem?_eq_some_iff.1 h3).1).trans h3,h4,fun j n hj=>by
   obtain ⟨u,u1,u2⟩:=h5 j n hj
   exact ⟨u,u1,u2.up m⟩⟩
theorem OrdS.up {w a:World} {B:Nat} {v:Value} {ms:List Nat} (h:OrdS w B v ms) (m:Up w a):OrdS a B v ms:=by
 rcases h with h | ⟨g,c,cs,h1,h2,h3,h4,h5⟩
 ·exact .inl h
 ·exact .inr ⟨g,c,cs,h1,h2,(m.block g (Array.getElem?_eq_some_iff.1 h3).1).trans h3,h4,fun j n hj=>by
   obtain ⟨u,u1,u2⟩:=h5 j n hj
   exact ⟨u,u1,u2.up m⟩⟩
theorem OrdS.more {w:World} {B B':Nat} {v:Value} {ms:List Nat} (h:OrdS w B v ms) (hB:B'≤B):OrdS w B' v ms:=by
 rcases h with h | ⟨g,c,cs,h1,h2,h3,h4,h5⟩
 ·exact .inl h
 ·exact .inr ⟨g,c,cs,h1,Nat.le_trans hB h2,h3,h4,fun j n hj=>by
   obtain ⟨u,u1,u2⟩:=h5 j n hj
   exact ⟨u,u1,u2.more hB⟩⟩
theorem Zi4 {ms:List Nat} {j m:Nat} (h:ms[j]?=some m):(ms.take (j+1)).sum=(ms.take j).sum+m:=by
 rw [List.take_add_one,h]; simp
theorem ZkZ {ms:List Nat} (j:Nat):(ms.take j).sum≤ms.sum:=by
 have:=congrArg List.sum (List.take_append_drop j ms)
 rw [List.sum_append] at this
 omega
set_option maxRecDepth 100000 in
theorem ZiP (v:Value) (ms:List Nat) (k:Int) {D:Nat→Prop} (w:World) (hs:OrdD w D v ms) (hn:ms.length≤1048576) (hsum:ms.sum≤1048576) (h0:1≤k) (h1:k≤1073741824):
 Calls Tryz.prog 91 #[v,.int .i64 k] w fun e w'=>e=.returned (.int .i64 (k+10*(ms.length:Int)+2*(ms.sum:Int)))∧Mk KPT D w w':=by
 rcases hs with ⟨c,rfl,rfl⟩ | ⟨g,c,cs,rfl,hBg,hg,hsz,hway⟩
 ·have HZ:=Lib.hid (show k=k+10*(([]:List Nat).length:Int)+2*(([]:List Nat).sum:Int) by simp)
  go_enter Tryz.func91,Tryz.ntmps91
  go_wp2
  go_loopw [5,1] (fun i kk wr=>i=.int .i64 0∧kk=.int .i64 k∧wr=w) (fun _ _ _=>0)
  case atStart=>exact ⟨rfl,rfl,rfl⟩
  case round=>
   obtain ⟨rfl,rfl,rfl⟩:=hrel
   go_wp2
   go_ret
   exact ⟨reti HZ.out,Mk.rfl'⟩
 ·have hR:RowA w g (ms.length*11) 62:=⟨cs,hg,hsz⟩
  have hW:∀ j m,ms[j]?=some m→∃ u,Zdf w D 55 2 u m∧∀ a,Mk KPT D w a→a.cell? ⟨g,j*11+6,none⟩=some u:=by
   intro j m hj
   obtain ⟨u,u1,u2⟩:=hway j m hj
   refine ⟨u,u2,fun a ha=>?_⟩
   obtain ⟨c1,k1,k2,k3⟩:=ha.row g cs _ hg
   rw [cell_of_row a g _ c1 _ (0,0) k1,k3 _ (.inl ⟨rfl,by omega⟩),u1]
  clear hg hsz hway
  go_enter Tryz.func91,Tryz.ntmps91
  go_wp2
  go_loopw [5,1] (fun i kk wr=>∃ j:Nat,j≤ms.length∧i=.int .i64 j∧kk=.int .i64 (k+10*(j:Int)+2*((ms.take j).sum:Int))∧Mk KPT D w wr) (fun i _ _=>ms.length-(intOf i).toNat)
  case atStart=>exact ⟨0,by omega,rfl,by congr 1; simp,Mk.rfl'⟩
  case round=>
   obtain ⟨j,hj,rfl,rfl,hM0⟩:=hrel
   by_cases hlt:j<ms.length
   ·obtain ⟨m,hm⟩:=Zhr hlt
    have hst:=Zi4 hm
    have hsl:=ZkZ (ms:=ms) (j+1)
    have hR0:=hR.mk hM0
    obtain ⟨u6,hw6,hc6⟩:=hW j m hm
    generalize hS:(ms.take j).sum=S at hst
    have hSm:S+m≤1048576:=by omega
    have HT:=Lib.hid hst
    clear hW hst hsl
    go_wp2_with fail
    refine (ZdD _ _ (by omega) (by omega)).mono ?_
    rintro e w1 ⟨s1,rfl,hb1⟩
    have hM1:Mk KPT D w w1:=Mk.up (by (repeat (first | with_reducible exact hM0 | (with_reducible refine Mk.setR (m:=ms.length*11) (T:=62) ?_ (by repeat (first | with_reducible exact hR0 | (with_reducible refine RowA.keep ?_ _))) hBg (fun h=>by have h_:=ZeN h; omega) _)))) hb1
    have hR1:RowA w1 g (ms.length*11) 62:=hR.mk hM1
    clear hb1
    obtain ⟨⟨u0,d0⟩,f0⟩:=hR1.cell (j:=j*11) (by omega)
    go_wp2_with fail
    refine (ZdD _ _ (by omega) (by omega)).mono ?_
    rintro e w2 ⟨s2,rfl,hb2⟩
    have hM2:Mk KPT D w w2:=Mk.up (by (repeat (first | with_reducible exact hM1 | (with_reducible refine Mk.setR (m:=ms.length*11) (T:=62) ?_ (by repeat (first | with_reducible exact hR1 | (with_reducible refine RowA.keep ?_ _))) hBg (fun h=>by have h_:=ZeN h; omega) _)))) hb2
    have hR2:RowA w2 g (ms.length*11) 62:=hR.mk hM2
    clear hb2
    obtain ⟨⟨u1,d1⟩,f1⟩:=hR2.cell (j:=j*11+1) (by omega)
    obtain ⟨⟨u2,d2⟩,f2⟩:=hR2.cell (j:=j*11+2) (by omega)
    obtain ⟨⟨u3,d3⟩,f3⟩:=hR2.cell (j:=j*11+3) (by omega)
    obtain ⟨⟨u4,d4⟩,f4⟩:=hR2.cell (j:=j*11+4) (by omega)
    obtain ⟨⟨u5,d5⟩,f5⟩:=hR2.cell (j:=j*11+5) (by omega)
    have d6:=hc6 _ hM2
    go_wp2_with fail
    refine (ZgP u6 m _ _ (hw6.mk (TO:=KPT) (D:=D) (by (repeat (first | with_reducible exact hM2 | (with_reducible refine Mk.setR (m:=ms.length*11) (T:=62) ?_ (by repeat (first | with_reducible exact hR2 | (with_reducible refine RowA.keep ?_ _))) hBg (fun h=>by have h_:=ZeN h; omega) _))))) (by omega) (by omega) (by omega)).mono ?_
    rintro e w3 ⟨rfl,hb3⟩
    have hM3:Mk KPT D w w3:=Mk.trans (by (repeat (first | with_reducible exact hM2 | (with_reducible refine Mk.setR (m:=ms.length*11) (T:=62) ?_ (by repeat (first | with_reducible exact hR2 | (with_reducible refine RowA.keep ?_ _))) hBg (fun h=>by have h_:=ZeN h; omega) _)))) hb3
    have hR3:RowA w3 g (ms.length*11) 62:=hR.mk hM3
    clear hb3
    obtain ⟨⟨u7,d7⟩,f7⟩:=hR3.cell (j:=j*11+7) (by omega)
    obtain ⟨⟨u8,d8⟩,f8⟩:=hR3.cell (j:=j*11+8) (by omega)
    go_wp2_with fail
    refine (ZdD _ _ (by omega) (by omega)).mono ?_
    rintro e w4 ⟨s4,rfl,hb4⟩
    have hM4:Mk KPT D w w4:=Mk.up (by (repeat (first | with_reducible exact hM3 | (with_reducible refine Mk.setR (m:=ms.length*11) (T:=62) ?_ (by repeat (first | with_reducible exact hR3 | (with_reducible refine RowA.keep ?_ _))) hBg (fun h=>by have h_:=ZeN h; omega) _)))) hb4
    have hR4:RowA w4 g (ms.length*11) 62:=hR.mk hM4
    clear hb4
    obtain ⟨⟨u9,d9⟩,f9⟩:=hR4.cell (j:=j*11+9) (by omega)
    obtain ⟨⟨u10,d10⟩,f10⟩:=hR4.cell (j:=j*11+10) (by omega)
    go_wp2_with fail
    exact ⟨⟨j+1,by omega,by go_num,by rw [HT.out]; congr 1 <;> omega,by (repeat (first | with_reducible exact hM4 | (with_reducible refine Mk.setR (m:=ms.length*11) (T:=62) ?_ (by repeat (first | with_reducible exact hR4 | (with_reducible refine RowA.keep ?_ _))) hBg (fun h=>by have h_:=ZeN h; omega) _)))⟩,by simp [intOf]; omega⟩
   ·obtain rfl:j=ms.length:=by omega
    have HT:=Lib.hid (show (ms.take ms.length).sum=ms.sum by rw [List.take_length])
    go_wp2_with fail
    go_ret
    exact ⟨reti (by rw [HT.out]),hM0⟩
theorem Zep {w a:World} {D:Nat→Prop} {cs:Array Value} {T:TypeId} (hT:T=35∨T=41) (m:Mk KPT D (w.alloc (.cells cs T)) a) {j:Nat} {u:Value} (hj:cs[j]?=some u):a.cell? ⟨w.heap.size,j,none⟩=some u:=by
 obtain ⟨c',q1,q2,q3⟩:=m.row w.heap.size _ _ (heap_alloc_new w _)
 rw [cell_of_row a _ j c' _ (0,0) q1,q3 j (.inr hT),hj]
theorem Zh6 (v0 v1 v2:Value) (n0 n1:Nat) (k:Int) {D:Nat→Prop} (w:World) (s0:Zdf w D 67 6 v0 n0) (s1:Zdf w D 3 1 v1 n1) (hn:n0≤1048576∧n1≤1048576) (h0:1≤k) (h1:k≤1048576):
 Calls Tryz.prog 90 #[.agg #[v0,v1,v2],.int .i64 k] w fun e w'=>e=.returned (.int .i64 (k+6*(n0:Int)+1*(n1:Int)))∧Mk KPT D w w':=by
 obtain ⟨hn0,hn1⟩:=hn
 go_enter Tryz.func90,Tryz.ntmps90
 go_wp2_with fail
 have m0:Mk KPT D w (w.alloc (.cells #[v0,v1,v2] 35)):=Mk.up (Mk.rfl') (by (repeat (first | exact Up.rfl' _ | (refine Up.al _ ?_) | (refine Up.dr _ ?_) | (refine Up.dr1 ?_) | (refine Up.sc ?_ (by first | exact Nat.le_refl _ | (simp; done) | omega) _) | (refine Up.step (by assumption) ?_))))
 refine (ZkD v0 n0 k _ (s0.mk m0) hn0 h0 (by omega)).mono ?_
 rintro e w1 ⟨rfl,m1⟩
 have M1:=m0.trans m1
 have c1:w1.cell? ⟨w.heap.size,1,none⟩=some v1:=Zep (.inl rfl) m1 rfl
 clear m0 m1
 go_wp2_with fail
 refine (ZhJ v1 n1 _ _ (s1.mk M1) hn1 (by omega) (by omega)).mono ?_
 rintro e w2 ⟨rfl,m2⟩
 have M2:=M1.trans m2
 go_wp2_with fail
 go_ret
 exact ⟨reti (by omega),M2⟩
structure Zia (w:World) (B:Nat) (v0 v1 v3 v4 v5 v7 v8:Value):Prop where
 legs:∃ n,n≤1048576∧Zak w B 67 6 v0 n
 off:∃ n,n≤1048576∧Zak w B 3 1 v1 n
 orders:∃ ms,ms.length≤1048576∧ms.sum≤1048576∧OrdS w B v3 ms
 bookings:∃ n,n≤1048576∧Zak w B 135 4 v4 n
 closed:∃ n,n≤1048576∧Zak w B 55 2 v5 n
 scans:∃ n,n≤1048576∧Zak w B 130 6 v7 n
 skip:∃ n,n≤1048576∧Zak w B 3 1 v8 n
theorem Zia.up {w a:World} {B:Nat} {v0 v1 v3 v4 v5 v7 v8:Value} (h:Zia w B v0 v1 v3 v4 v5 v7 v8) (m:Up w a):Zia a B v0 v1 v3 v4 v5 v7 v8:=by
 obtain ⟨⟨n0,a0,b0⟩,⟨n1,a1,b1⟩,⟨n3,a3,c3,b3⟩,⟨n4,a4,b4⟩,⟨n5,a5,b5⟩,⟨n7,a7,b7⟩,⟨n8,a8,b8⟩⟩:=h
 exact ⟨⟨n0,a0,b0.up m⟩,⟨n1,a1,b1.up m⟩,⟨n3,a3,c3,b3.up m⟩,⟨n4,a4,b4.up m⟩,⟨n5,a5,b5.up m⟩,⟨n7,a7,b7.up m⟩,⟨n8,a8,b8.up m⟩⟩
structure Zi9 (w:World) (D:Nat→Prop) (v0 v1 v3 v4 v5 v7 v8:Value):Prop where
 legs:∃ n,n≤1048576∧Zdf w D 67 6 v0 n
 off:∃ n,n≤1048576∧Zdf w D 3 1 v1 n
 orders:∃ ms,ms.length≤1048576∧ms.sum≤1048576∧OrdD w D v3 ms
 bookings:∃ n,n≤1048576∧Zdf w D 135 4 v4 n
 closed:∃ n,n≤1048576∧Zdf w D 55 2 v5 n
 scans:∃ n,n≤1048576∧Zdf w D 130 6 v7 n
 skip:∃ n,n≤1048576∧Zdf w D 3 1 v8 n
theorem Zi9.up {w a:World} {D:Nat→Prop} {v0 v1 v3 v4 v5 v7 v8:Value} (h:Zi9 w D v0 v1 v3 v4 v5 v7 v8) (m:Up w a):Zi9 a D v0 v1 v3 v4 v5 v7 v8:=by
 obtain ⟨⟨n0,a0,b0⟩,⟨n1,a1,b1⟩,⟨n3,a3,c3,b3⟩,⟨n4,a4,b4⟩,⟨n5,a5,b5⟩,⟨n7,a7,b7⟩,⟨n8,a8,b8⟩⟩:=h
 exact ⟨⟨n0,a0,b0.up m⟩,⟨n1,a1,b1.up m⟩,⟨n3,a3,c3,b3.up m⟩,⟨n4,a4,b4.up m⟩,⟨n5,a5,b5.up m⟩,⟨n7,a7,b7.up m⟩,⟨n8,a8,b8.up m⟩⟩
theorem Zia.toD {w:World} {B:Nat} {v0 v1 v3 v4 v5 v7 v8:Value} (h:Zia w B v0 v1 v3 v4 v5 v7 v8):Zi9 w (fun b=>B≤b∧b<w.heap.size) v0 v1 v3 v4 v5 v7 v8:=by
 obtain ⟨⟨n0,a0,b0⟩,⟨n1,a1,b1⟩,⟨n3,a3,c3,b3⟩,⟨n4,a4,b4⟩,⟨n5,a5,b5⟩,⟨n7,a7,b7⟩,⟨n8,a8,b8⟩⟩:=h
 exact ⟨⟨n0,a0,b0.toD⟩,⟨n1,a1,b1.toD⟩,⟨n3,a3,c3,b3.toD⟩,⟨n4,a4,b4.toD⟩,⟨n5,a5,b5.toD⟩,⟨n7,a7,b7.toD⟩,⟨n8,a8,b8.toD⟩⟩
theorem ZjL (v0 v1 v2 v3 v4 v5 v6 v7 v8 v9:Value) {D:Nat→Prop} (w:World) (hs:Zi9 w D v0 v1 v3 v4 v5 v7 v8):
 Calls Tryz.prog 20 #[.agg #[v0,v1,v2,v3,v4,v5,v6,v7,v8,v9],.int .i64 1] w fun e w'=>∃ kk:Int,e=.returned (.int .i64 kk)∧1≤kk∧kk≤1099511627776∧Mk KPT D w w':=by
 obtain ⟨⟨n0,a0,b0⟩,⟨n1,a1,b1⟩,⟨n3,a3,c3,b3⟩,⟨n4,a4,b4⟩,⟨n5,a5,b5⟩,⟨n7,a7,b7⟩,⟨n8,a8,b8⟩⟩:=hs
 go_enter Tryz.func20,Tryz.ntmps20
 go_wp2_with fail
 have m0:Mk KPT D w (w.alloc (.cells #[v0,v1,v2,v3,v4,v5,v6,v7,v8,v9] 41)):=Mk.up (Mk.rfl') (by (repeat (first | exact Up.rfl' _ | (refine Up.al _ ?_) | (refine Up.dr _ ?_) | (refine Up.dr1 ?_) | (refine Up.sc ?_ (by first | exact Nat.le_refl _ | (simp; done) | omega) _) | (refine Up.step (by assumption) ?_))))
 refine (Zh6 v0 v1 v2 n0 n1 1 _ (b0.mk m0) (b1.mk m0) ⟨a0,a1⟩ (by omega) (by omega)).mono ?_
 rintro e w1 ⟨rfl,m1⟩
 have M1:=m0.trans m1
 have d3:w1.cell? ⟨w.heap.size,3,none⟩=some v3:=Zep (.inr rfl) m1 rfl
 go_wp2_with fail
 refine (ZiP v3 n3 _ _ (b3.mk M1) a3 c3 (by omega) (by omega)).mono ?_
 rintro e w2 ⟨rfl,m2⟩
 replace m1:=m1.trans m2
 have M2:=M1.trans m2
 have d4:w2.cell? ⟨w.heap.size,4,none⟩=some v4:=Zep (.inr rfl) m1 rfl
 go_wp2_with fail
 refine (ZhI v4 n4 _ _ (b4.mk M2) a4 (by omega) (by omega)).mono ?_
 rintro e w3 ⟨rfl,m3⟩
 replace m1:=m1.trans m3
 have M3:=M2.trans m3
 have d5:w3.cell? ⟨w.heap.size,5,none⟩=some v5:=Zep (.inr rfl) m1 rfl
 go_wp2_with fail
 refine (ZgP v5 n5 _ _ (b5.mk M3) a5 (by omega) (by omega)).mono ?_
 rintro e w4 ⟨rfl,m4⟩
 replace m1:=m1.trans m4
 have M4:=M3.trans m4
 have d7:w4.cell? ⟨w.heap.size,7,none⟩=some v7:=Zep (.inr rfl) m1 rfl
 go_wp2_with fail
 refine (ZjK v7 n7 _ _ (b7.mk M4) a7 (by omega) (by omega)).mono ?_
 rintro e w5 ⟨rfl,m5⟩
 replace m1:=m1.trans m5
 have M5:=M4.trans m5
 have d8:w5.cell? ⟨w.heap.size,8,none⟩=some v8:=Zep (.inr rfl) m1 rfl
 go_wp2_with fail
 refine (ZhJ v8 n8 _ _ (b8.mk M5) a8 (by omega) (by omega)).mono ?_
 rintro e w6 ⟨rfl,m6⟩
 have M6:=M5.trans m6
 go_wp2_with fail
 go_ret
 exact ⟨_,rfl,by omega,by omega,M6⟩
set_option maxHeartbeats 16000000
def ZcW (a:YLeg) (b:YLeg):Option Bool:=
 cond (!decide (a.from_=b.from_))
 (some false)
 (cond (!decide (a.to_=b.to_))
 (some false)
 (cond (!decide (a.start=b.start))
 (some false)
 (cond (!decide (a.takes=b.takes))
 (some false)
 (cond (!decide (a.days=b.days))
 (some false)
 (cond (!decide (a.room=b.room))
 (some false)
 (some true))))))
instance (a:YLeg) (b:YLeg):CT Tryz.prog (ZcW a b):=⟨229,[.ag (cLeg a),.ag (cLeg b)],[],fun r=>vb r,fun r=>[],fun H=>by replace H:=H0 H; unfold ZcW at H; exact callM_of Tryz.func229 rfl Tryz.ntmps229 Tryz.results229 fun Q hQ hQn=>wk3⟩
def Zc0 (a:YLeg):Option YLeg:=
 some a
instance (a:YLeg):CT Tryz.prog (Zc0 a):=⟨228,[.ag (cLeg a)],[],fun r=>.ag [vs r.from_,vs r.to_,vi r.start,vi r.takes,vi r.days,vi r.room],fun r=>[],fun H=>by replace H:=H0 H; unfold Zc0 at H; exact callM_of Tryz.func228 rfl Tryz.ntmps228 Tryz.results228 fun Q hQ hQn=>wk3⟩
def ZdC (a:YLeg) (left:Int):Option Int:=
 cond (decide ((w64 (left-(a.from_.size:Int)))<0))
 (some (-1))
 (cond (decide ((w64 ((w64 (left-(a.from_.size:Int)))-(a.to_.size:Int)))<0))
 (some (-1))
 (some (w64 ((w64 (left-(a.from_.size:Int)))-(a.to_.size:Int)))))
instance (a:YLeg) (left:Int):CT Tryz.prog (ZdC a left):=⟨227,[.ag (cLeg a),vi left],[],fun r=>vi r,fun r=>[],fun H=>by replace H:=H0 H; unfold ZdC at H; exact callM_of Tryz.func227 rfl Tryz.ntmps227 Tryz.results227 fun Q hQ hQn=>wk3⟩
def ZcF (a:List YLeg) (b:List YLeg) (s0:Int):Option (Int ⊕ (Unit ⊕ Bool)):=
 cond (decide (s0<(a.length:Int)))
 ((getI a s0).bind fun y1=>
 (getI b s0).bind fun y2=>
 (ZcW y1 y2).bind fun y3=>
 cond (!y3)
 (some (.inr (.inr false)))
 (some (.inl (w64 (s0+1)))))
 (some (.inr (.inl ())))
instance (a:List YLeg) (b:List YLeg):LoopE (ZcF a b):=⟨fun s0=>(.sl (a.map cLeg)::.sl (b.map cLeg)::(U 3 (vi s0::(U 21 [])))),fun s0=>[]⟩
def ZdL (a:List YLeg) (b:List YLeg):Option Bool:=
 cond (!decide ((a.length:Int)=(b.length:Int)))
 (some false)
 ((iterF (ZcF a b) NN 0).bind (selim (fun o0=>
 some true) (fun r=>some r)))
instance (a:List YLeg) (b:List YLeg):CT Tryz.prog (ZdL a b):=⟨170,[.sl (a.map cLeg),.sl (b.map cLeg)],[],fun r=>vb r,fun r=>[],fun H=>by replace H:=H0 H; unfold ZdL at H; exact callM_of Tryz.func170 rfl Tryz.ntmps170 Tryz.results170 fun Q hQ hQn=>wk3⟩
def ZcI (a:List YLeg) (s0:Int × (List YLeg)):Option ((Int × (List YLeg)) ⊕ (List YLeg)):=
 cond (decide (s0.1<(a.length:Int)))
 ((getI a s0.1).bind fun y1=>
 (Zc0 y1).bind fun y2=>
 (getI s0.2 s0.1).bind fun y3=>
 some (.inl ((w64 (s0.1+1)),(s0.2.set (Int.toNat s0.1) y2))))
 (some (.inr s0.2))
instance (a:List YLeg):LoopE (ZcI a):=⟨fun s0=>(.sl (a.map cLeg)::.un::.un::.ms 0::vi s0.1::(U 18 [])),fun s0=>[some ⟨.of 67,6,s0.2.map cLeg⟩]⟩
def ZdO (a:List YLeg):Option (List YLeg):=
 (chk (mkOk (a.length:Int) 64)).bind fun _=>
 (iterF (ZcI a) NN (0,(List.replicate (Int.toNat (a.length:Int)) (⟨⟨#[]⟩,⟨#[]⟩,0,0,0,0⟩:YLeg)))).bind (fun o0=>
 some o0)
theorem ZfE (a:List YLeg) {r:(List YLeg)} (H:ZdO a=some r):CallM Tryz.prog 165 [.sl (a.map cLeg)] [] (.ms 0) [some ⟨.of 67,6,r.map cLeg⟩]:=by
 replace H:=H0 H
 unfold ZdO at H
 refine callM_of Tryz.func165 rfl Tryz.ntmps165 Tryz.results165 fun Q hQ hQn=>?_
 exact wk3
instance (a:List YLeg):CT Tryz.prog (ZdO a):=⟨165,[.sl (a.map cLeg)],[],fun r=>.ms 0,fun r=>[some ⟨.of 67,6,r.map cLeg⟩],ZfE a⟩
def Zbh (a:List YLeg) (s0:Int × Int):Option ((Int × Int) ⊕ (Int ⊕ Int)):=
 cond (decide (s0.2<(a.length:Int)))
 ((getI a s0.2).bind fun y1=>
 (ZdC y1 s0.1).bind fun y2=>
 cond (decide (y2<0))
 (some (.inr (.inr (-1))))
 (some (.inl (y2,(w64 (s0.2+1))))))
 (some (.inr (.inl s0.1)))
instance (a:List YLeg):LoopE (Zbh a):=⟨fun s0=>(.sl (a.map cLeg)::vi s0.1::(U 3 (vi s0.2::(U 21 [])))),fun s0=>[]⟩
def ZdM (a:List YLeg) (left:Int):Option Int:=
 cond (decide ((w64 (left-(a.length:Int)))<0))
 (some (-1))
 ((iterF (Zbh a) NN ((w64 (left-(a.length:Int))),0)).bind (selim (fun o0=>
 some o0) (fun r=>some r)))
instance (a:List YLeg) (left:Int):CT Tryz.prog (ZdM a left):=⟨159,[.sl (a.map cLeg),vi left],[],fun r=>vi r,fun r=>[],fun H=>by replace H:=H0 H; unfold ZdM at H; exact callM_of Tryz.func159 rfl Tryz.ntmps159 Tryz.results159 fun Q hQ hQn=>wk3⟩
def ZcE (a:List Int) (b:List Int) (s0:Int):Option (Int ⊕ (Unit ⊕ Bool)):=
 cond (decide (s0<(a.length:Int)))
 ((getI a s0).bind fun y1=>
 (getI b s0).bind fun y2=>
 cond (!decide (y1=y2))
 (some (.inr (.inr false)))
 (some (.inl (w64 (s0+1)))))
 (some (.inr (.inl ())))
instance (a:List Int) (b:List Int):LoopE (ZcE a b):=⟨fun s0=>(.sl (a.map cInt)::.sl (b.map cInt)::(U 3 (vi s0::(U 20 [])))),fun s0=>[]⟩
def Zcx (a:List Int) (b:List Int):Option Bool:=
 cond (!decide ((a.length:Int)=(b.length:Int)))
 (some false)
 ((iterF (ZcE a b) NN 0).bind (selim (fun o0=>
 some true) (fun r=>some r)))
theorem Zh7 (a:List Int) (b:List Int) {r:Bool} (H:Zcx a b=some r):CallM Tryz.prog 89 [.sl (a.map cInt),.sl (b.map cInt)] [] (vb r) []:=by
 replace H:=H0 H
 unfold Zcx at H
 refine callM_of Tryz.func89 rfl Tryz.ntmps89 Tryz.results89 fun Q hQ hQn=>?_
 exact wk3
instance (a:List Int) (b:List Int):CT Tryz.prog (Zcx a b):=⟨89,[.sl (a.map cInt),.sl (b.map cInt)],[],fun r=>vb r,fun r=>[],Zh7 a b⟩
def ZcH (a:List Int) (s0:Int × (List Int)):Option ((Int × (List Int)) ⊕ (List Int)):=
 cond (decide (s0.1<(a.length:Int)))
 ((getI a s0.1).bind fun y1=>
 (getI s0.2 s0.1).bind fun y2=>
 some (.inl ((w64 (s0.1+1)),(s0.2.set (Int.toNat s0.1) y1))))
 (some (.inr s0.2))
instance (a:List Int):LoopE (ZcH a):=⟨fun s0=>(.sl (a.map cInt)::.un::.un::.ms 0::vi s0.1::(U 17 [])),fun s0=>[some ⟨.of 3,1,s0.2.map cInt⟩]⟩
def ZdN (a:List Int):Option (List Int):=
 (chk (mkOk (a.length:Int) 8)).bind fun _=>
 (iterF (ZcH a) NN (0,(List.replicate (Int.toNat (a.length:Int)) 0))).bind (fun o0=>
 some o0)
theorem ZfD (a:List Int) {r:(List Int)} (H:ZdN a=some r):CallM Tryz.prog 79 [.sl (a.map cInt)] [] (.ms 0) [some ⟨.of 3,1,r.map cInt⟩]:=by
 replace H:=H0 H
 unfold ZdN at H
 refine callM_of Tryz.func79 rfl Tryz.ntmps79 Tryz.results79 fun Q hQ hQn=>?_
 exact wk3
instance (a:List Int):CT Tryz.prog (ZdN a):=⟨79,[.sl (a.map cInt)],[],fun r=>.ms 0,fun r=>[some ⟨.of 3,1,r.map cInt⟩],ZfD a⟩
def Zc6 (a:List Int) (left:Int):Option Int:=
 cond (decide ((w64 (left-(a.length:Int)))<0))
 (some (-1))
 (some (w64 (left-(a.length:Int))))
instance (a:List Int) (left:Int):CT Tryz.prog (Zc6 a left):=⟨69,[.sl (a.map cInt),vi left],[],fun r=>vi r,fun r=>[],fun H=>by replace H:=H0 H; unfold Zc6 at H; exact callM_of Tryz.func69 rfl Tryz.ntmps69 Tryz.results69 fun Q hQ hQn=>wk3⟩
def Zbf (a:YNetwork) (b:YNetwork):Option Bool:=
 (ZdL a.legs b.legs).bind fun y1=>
 cond (!y1)
 (some false)
 ((Zcx a.off b.off).bind fun y2=>
 cond (!y2)
 (some false)
 (cond (!decide (a.change=b.change))
 (some false)
 (some true)))
instance (a:YNetwork) (b:YNetwork):CT Tryz.prog (Zbf a b):=⟨84,[.ag (cNetwork a),.ag (cNetwork b)],[],fun r=>vb r,fun r=>[],fun H=>by replace H:=H0 H; unfold Zbf at H; exact callM_of Tryz.func84 rfl Tryz.ntmps84 Tryz.results84 fun Q hQ hQn=>wk3⟩
def ZcG (a:YNetwork) (left:Int):Option Int:=
 (ZdM a.legs left).bind fun y1=>
 cond (decide (y1<0))
 (some (-1))
 ((Zc6 a.off y1).bind fun y2=>
 cond (decide (y2<0))
 (some (-1))
 (some y2))
instance (a:YNetwork) (left:Int):CT Tryz.prog (ZcG a left):=⟨64,[.ag (cNetwork a),vi left],[],fun r=>vi r,fun r=>[],fun H=>by replace H:=H0 H; unfold ZcG at H; exact callM_of Tryz.func64 rfl Tryz.ntmps64 Tryz.results64 fun Q hQ hQn=>wk3⟩
def ZbP (a:YTrip) (b:YTrip):Option Bool:=
 cond (!decide (a.leg=b.leg))
 (some false)
 (cond (!decide (a.day=b.day))
 (some false)
 (some true))
instance (a:YTrip) (b:YTrip):CT Tryz.prog (ZbP a b):=⟨173,[.ag (cTrip a),.ag (cTrip b)],[],fun r=>vb r,fun r=>[],fun H=>by replace H:=H0 H; unfold ZbP at H; exact callM_of Tryz.func173 rfl Tryz.ntmps173 Tryz.results173 fun Q hQ hQn=>wk3⟩
def Zbr (a:YTrip):Option YTrip:=
 some a
instance (a:YTrip):CT Tryz.prog (Zbr a):=⟨42,[.ag (cTrip a)],[],fun r=>.ag [vi r.leg,vi r.day],fun r=>[],fun H=>by replace H:=H0 H; unfold Zbr at H; exact callM_of Tryz.func42 rfl Tryz.ntmps42 Tryz.results42 fun Q hQ hQn=>wk3⟩
def Zch (a:List YTrip) (b:List YTrip) (s0:Int):Option (Int ⊕ (Unit ⊕ Bool)):=
 cond (decide (s0<(a.length:Int)))
 ((getI a s0).bind fun y1=>
 (getI b s0).bind fun y2=>
 (ZbP y1 y2).bind fun y3=>
 cond (!y3)
 (some (.inr (.inr false)))
 (some (.inl (w64 (s0+1)))))
 (some (.inr (.inl ())))
instance (a:List YTrip) (b:List YTrip):LoopE (Zch a b):=⟨fun s0=>(.sl (a.map cTrip)::.sl (b.map cTrip)::(U 3 (vi s0::(U 21 [])))),fun s0=>[]⟩
def ZcL (a:List YTrip) (b:List YTrip):Option Bool:=
 cond (!decide ((a.length:Int)=(b.length:Int)))
 (some false)
 ((iterF (Zch a b) NN 0).bind (selim (fun o0=>
 some true) (fun r=>some r)))
instance (a:List YTrip) (b:List YTrip):CT Tryz.prog (ZcL a b):=⟨87,[.sl (a.map cTrip),.sl (b.map cTrip)],[],fun r=>vb r,fun r=>[],fun H=>by replace H:=H0 H; unfold ZcL at H; exact callM_of Tryz.func87 rfl Tryz.ntmps87 Tryz.results87 fun Q hQ hQn=>wk3⟩
def Zcl (a:List YTrip) (s0:Int × (List YTrip)):Option ((Int × (List YTrip)) ⊕ (List YTrip)):=
 cond (decide (s0.1<(a.length:Int)))
 ((getI a s0.1).bind fun y1=>
 (Zbr y1).bind fun y2=>
 (getI s0.2 s0.1).bind fun y3=>
 some (.inl ((w64 (s0.1+1)),(s0.2.set (Int.toNat s0.1) y2))))
 (some (.inr s0.2))
instance (a:List YTrip):LoopE (Zcl a):=⟨fun s0=>(.sl (a.map cTrip)::.un::.un::.ms 0::vi s0.1::(U 18 [])),fun s0=>[some ⟨.of 55,2,s0.2.map cTrip⟩]⟩
def Zdp (a:List YTrip):Option (List YTrip):=
 (chk (mkOk (a.length:Int) 16)).bind fun _=>
 (iterF (Zcl a) NN (0,(List.replicate (Int.toNat (a.length:Int)) (⟨0,0⟩:YTrip)))).bind (fun o0=>
 some o0)
theorem Zfg (a:List YTrip) {r:(List YTrip)} (H:Zdp a=some r):CallM Tryz.prog 77 [.sl (a.map cTrip)] [] (.ms 0) [some ⟨.of 55,2,r.map cTrip⟩]:=by
 replace H:=H0 H
 unfold Zdp at H
 refine callM_of Tryz.func77 rfl Tryz.ntmps77 Tryz.results77 fun Q hQ hQn=>?_
 exact wk3
instance (a:List YTrip):CT Tryz.prog (Zdp a):=⟨77,[.sl (a.map cTrip)],[],fun r=>.ms 0,fun r=>[some ⟨.of 55,2,r.map cTrip⟩],Zfg a⟩
def ZcN (a:List YTrip) (left:Int):Option Int:=
 cond (decide ((w64 (left-(a.length:Int)))<0))
 (some (-1))
 (some (w64 (left-(a.length:Int))))
instance (a:List YTrip) (left:Int):CT Tryz.prog (ZcN a left):=⟨67,[.sl (a.map cTrip),vi left],[],fun r=>vi r,fun r=>[],fun H=>by replace H:=H0 H; unfold ZcN at H; exact callM_of Tryz.func67 rfl Tryz.ntmps67 Tryz.results67 fun Q hQ hQn=>wk3⟩
def Zb0 (a:YOrder) (b:YOrder):Option Bool:=
 cond (!decide (a.from_=b.from_))
 (some false)
 (cond (!decide (a.to_=b.to_))
 (some false)
 (cond (!decide (a.service=b.service))
 (some false)
 (cond (!decide (a.weight=b.weight))
 (some false)
 (cond (!decide (a.at_=b.at_))
 (some false)
 (cond (!decide (a.due=b.due))
 (some false)
 ((ZcL a.way b.way).bind fun y1=>
 cond (!y1)
 (some false)
 (cond (!decide (a.gone=b.gone))
 (some false)
 (cond (!decide (a.state=b.state))
 (some false)
 (cond (!decide (a.place=b.place))
 (some false)
 (cond (!decide (a.ended=b.ended))
 (some false)
 (some true)))))))))))
instance (a:YOrder) (b:YOrder):CT Tryz.prog (Zb0 a b):=⟨171,[.ag (cOrder a),.ag (cOrder b)],[],fun r=>vb r,fun r=>[],fun H=>by replace H:=H0 H; unfold Zb0 at H; exact callM_of Tryz.func171 rfl Tryz.ntmps171 Tryz.results171 fun Q hQ hQn=>wk3⟩
def ZcM (a:YOrder) (left:Int):Option Int:=
 cond (decide ((w64 (left-(a.from_.size:Int)))<0))
 (some (-1))
 (cond (decide ((w64 ((w64 (left-(a.from_.size:Int)))-(a.to_.size:Int)))<0))
 (some (-1))
 ((ZcN a.way (w64 ((w64 (left-(a.from_.size:Int)))-(a.to_.size:Int)))).bind fun y1=>
 cond (decide (y1<0))
 (some (-1))
 (cond (decide ((w64 (y1-(a.place.size:Int)))<0))
 (some (-1))
 (some (w64 (y1-(a.place.size:Int)))))))
instance (a:YOrder) (left:Int):CT Tryz.prog (ZcM a left):=⟨160,[.ag (cOrder a),vi left],[],fun r=>vi r,fun r=>[],fun H=>by replace H:=H0 H; unfold ZcM at H; exact callM_of Tryz.func160 rfl Tryz.ntmps160 Tryz.results160 fun Q hQ hQn=>wk3⟩
def ZbO (a:List YOrder) (b:List YOrder) (s0:Int):Option (Int ⊕ (Unit ⊕ Bool)):=
 cond (decide (s0<(a.length:Int)))
 ((getI a s0).bind fun y1=>
 (getI b s0).bind fun y2=>
 (Zb0 y1 y2).bind fun y3=>
 cond (!y3)
 (some (.inr (.inr false)))
 (some (.inl (w64 (s0+1)))))
 (some (.inr (.inl ())))
instance (a:List YOrder) (b:List YOrder):LoopE (ZbO a b):=⟨fun s0=>(.sl (a.map cOrder)::.sl (b.map cOrder)::(U 3 (vi s0::(U 21 [])))),fun s0=>[]⟩
def ZcX (a:List YOrder) (b:List YOrder):Option Bool:=
 cond (!decide ((a.length:Int)=(b.length:Int)))
 (some false)
 ((iterF (ZbO a b) NN 0).bind (selim (fun o0=>
 some true) (fun r=>some r)))
instance (a:List YOrder) (b:List YOrder):CT Tryz.prog (ZcX a b):=⟨85,[.sl (a.map cOrder),.sl (b.map cOrder)],[],fun r=>vb r,fun r=>[],fun H=>by replace H:=H0 H; unfold ZcX at H; exact callM_of Tryz.func85 rfl Tryz.ntmps85 Tryz.results85 fun Q hQ hQn=>wk3⟩
def ZaI (a:List YOrder) (s0:Int × Int):Option ((Int × Int) ⊕ (Int ⊕ Int)):=
 cond (decide (s0.2<(a.length:Int)))
 ((getI a s0.2).bind fun y1=>
 (ZcM y1 s0.1).bind fun y2=>
 cond (decide (y2<0))
 (some (.inr (.inr (-1))))
 (some (.inl (y2,(w64 (s0.2+1))))))
 (some (.inr (.inl s0.1)))
instance (a:List YOrder):LoopE (ZaI a):=⟨fun s0=>(.sl (a.map cOrder)::vi s0.1::(U 3 (vi s0.2::(U 21 [])))),fun s0=>[]⟩
def ZcZ (a:List YOrder) (left:Int):Option Int:=
 cond (decide ((w64 (left-(a.length:Int)))<0))
 (some (-1))
 ((iterF (ZaI a) NN ((w64 (left-(a.length:Int))),0)).bind (selim (fun o0=>
 some o0) (fun r=>some r)))
instance (a:List YOrder) (left:Int):CT Tryz.prog (ZcZ a left):=⟨65,[.sl (a.map cOrder),vi left],[],fun r=>vi r,fun r=>[],fun H=>by replace H:=H0 H; unfold ZcZ at H; exact callM_of Tryz.func65 rfl Tryz.ntmps65 Tryz.results65 fun Q hQ hQn=>wk3⟩
def ZbJ (a:YBooking) (b:YBooking):Option Bool:=
 cond (!decide (a.thing=b.thing))
 (some false)
 ((ZbP a.trip b.trip).bind fun y1=>
 cond (!y1)
 (some false)
 (cond (!decide (a.weight=b.weight))
 (some false)
 (some true)))
instance (a:YBooking) (b:YBooking):CT Tryz.prog (ZbJ a b):=⟨172,[.ag (cBooking a),.ag (cBooking b)],[],fun r=>vb r,fun r=>[],fun H=>by replace H:=H0 H; unfold ZbJ at H; exact callM_of Tryz.func172 rfl Tryz.ntmps172 Tryz.results172 fun Q hQ hQn=>wk3⟩
def Zbi (a:YBooking):Option YBooking:=
 (Zbr a.trip).bind fun y1=>
 some (⟨a.thing,y1,a.weight⟩:YBooking)
instance (a:YBooking):CT Tryz.prog (Zbi a):=⟨167,[.ag (cBooking a)],[],fun r=>.ag [vi r.thing,vi r.trip.leg,vi r.trip.day,vi r.weight],fun r=>[],fun H=>by replace H:=H0 H; unfold Zbi at H; exact callM_of Tryz.func167 rfl Tryz.ntmps167 Tryz.results167 fun Q hQ hQn=>wk3⟩
def Zbm (a:List YBooking) (b:List YBooking) (s0:Int):Option (Int ⊕ (Unit ⊕ Bool)):=
 cond (decide (s0<(a.length:Int)))
 ((getI a s0).bind fun y1=>
 (getI b s0).bind fun y2=>
 (ZbJ y1 y2).bind fun y3=>
 cond (!y3)
 (some (.inr (.inr false)))
 (some (.inl (w64 (s0+1)))))
 (some (.inr (.inl ())))
instance (a:List YBooking) (b:List YBooking):LoopE (Zbm a b):=⟨fun s0=>(.sl (a.map cBooking)::.sl (b.map cBooking)::(U 3 (vi s0::(U 21 [])))),fun s0=>[]⟩
def Zcf (a:List YBooking) (b:List YBooking):Option Bool:=
 cond (!decide ((a.length:Int)=(b.length:Int)))
 (some false)
 ((iterF (Zbm a b) NN 0).bind (selim (fun o0=>
 some true) (fun r=>some r)))
instance (a:List YBooking) (b:List YBooking):CT Tryz.prog (Zcf a b):=⟨86,[.sl (a.map cBooking),.sl (b.map cBooking)],[],fun r=>vb r,fun r=>[],fun H=>by replace H:=H0 H; unfold Zcf at H; exact callM_of Tryz.func86 rfl Tryz.ntmps86 Tryz.results86 fun Q hQ hQn=>wk3⟩
def Zbo (a:List YBooking) (s0:Int × (List YBooking)):Option ((Int × (List YBooking)) ⊕ (List YBooking)):=
 cond (decide (s0.1<(a.length:Int)))
 ((getI a s0.1).bind fun y1=>
 (Zbi y1).bind fun y2=>
 (getI s0.2 s0.1).bind fun y3=>
 some (.inl ((w64 (s0.1+1)),(s0.2.set (Int.toNat s0.1) y2))))
 (some (.inr s0.2))
instance (a:List YBooking):LoopE (Zbo a):=⟨fun s0=>(.sl (a.map cBooking)::.un::.un::.ms 0::vi s0.1::(U 18 [])),fun s0=>[some ⟨.of 135,4,s0.2.map cBooking⟩]⟩
def Zcj (a:List YBooking):Option (List YBooking):=
 (chk (mkOk (a.length:Int) 32)).bind fun _=>
 (iterF (Zbo a) NN (0,(List.replicate (Int.toNat (a.length:Int)) (⟨0,(⟨0,0⟩:YTrip),0⟩:YBooking)))).bind (fun o0=>
 some o0)
theorem ZeF (a:List YBooking) {r:(List YBooking)} (H:Zcj a=some r):CallM Tryz.prog 76 [.sl (a.map cBooking)] [] (.ms 0) [some ⟨.of 135,4,r.map cBooking⟩]:=by
 replace H:=H0 H
 unfold Zcj at H
 refine callM_of Tryz.func76 rfl Tryz.ntmps76 Tryz.results76 fun Q hQ hQn=>?_
 exact wk3
instance (a:List YBooking):CT Tryz.prog (Zcj a):=⟨76,[.sl (a.map cBooking)],[],fun r=>.ms 0,fun r=>[some ⟨.of 135,4,r.map cBooking⟩],ZeF a⟩
def Zci (a:List YBooking) (left:Int):Option Int:=
 cond (decide ((w64 (left-(a.length:Int)))<0))
 (some (-1))
 (some (w64 (left-(a.length:Int))))
instance (a:List YBooking) (left:Int):CT Tryz.prog (Zci a left):=⟨66,[.sl (a.map cBooking),vi left],[],fun r=>vi r,fun r=>[],fun H=>by replace H:=H0 H; unfold Zci at H; exact callM_of Tryz.func66 rfl Tryz.ntmps66 Tryz.results66 fun Q hQ hQn=>wk3⟩
def Zcy (a:YScan) (b:YScan):Option Bool:=
 cond (!decide (a.thing=b.thing))
 (some false)
 (cond (!decide (a.at_=b.at_))
 (some false)
 (cond (!decide (a.kind=b.kind))
 (some false)
 (cond (!decide (a.place=b.place))
 (some false)
 ((ZbP a.trip b.trip).bind fun y1=>
 cond (!y1)
 (some false)
 (some true)))))
instance (a:YScan) (b:YScan):CT Tryz.prog (Zcy a b):=⟨174,[.ag (cScan a),.ag (cScan b)],[],fun r=>vb r,fun r=>[],fun H=>by replace H:=H0 H; unfold Zcy at H; exact callM_of Tryz.func174 rfl Tryz.ntmps174 Tryz.results174 fun Q hQ hQn=>wk3⟩
def Zcz (a:YScan):Option YScan:=
 (Zbr a.trip).bind fun y1=>
 some (⟨a.thing,a.at_,a.kind,a.place,y1⟩:YScan)
instance (a:YScan):CT Tryz.prog (Zcz a):=⟨168,[.ag (cScan a)],[],fun r=>.ag [vi r.thing,vi r.at_,vi r.kind,vs r.place,vi r.trip.leg,vi r.trip.day],fun r=>[],fun H=>by replace H:=H0 H; unfold Zcz at H; exact callM_of Tryz.func168 rfl Tryz.ntmps168 Tryz.results168 fun Q hQ hQn=>wk3⟩
def Zc7 (a:YScan) (left:Int):Option Int:=
 cond (decide ((w64 (left-(a.place.size:Int)))<0))
 (some (-1))
 (some (w64 (left-(a.place.size:Int))))
instance (a:YScan) (left:Int):CT Tryz.prog (Zc7 a left):=⟨161,[.ag (cScan a),vi left],[],fun r=>vi r,fun r=>[],fun H=>by replace H:=H0 H; unfold Zc7 at H; exact callM_of Tryz.func161 rfl Tryz.ntmps161 Tryz.results161 fun Q hQ hQn=>wk3⟩
def Zcg (a:List YScan) (b:List YScan) (s0:Int):Option (Int ⊕ (Unit ⊕ Bool)):=
 cond (decide (s0<(a.length:Int)))
 ((getI a s0).bind fun y1=>
 (getI b s0).bind fun y2=>
 (Zcy y1 y2).bind fun y3=>
 cond (!y3)
 (some (.inr (.inr false)))
 (some (.inl (w64 (s0+1)))))
 (some (.inr (.inl ())))
instance (a:List YScan) (b:List YScan):LoopE (Zcg a b):=⟨fun s0=>(.sl (a.map cScan)::.sl (b.map cScan)::(U 3 (vi s0::(U 21 [])))),fun s0=>[]⟩
def Zdm (a:List YScan) (b:List YScan):Option Bool:=
 cond (!decide ((a.length:Int)=(b.length:Int)))
 (some false)
 ((iterF (Zcg a b) NN 0).bind (selim (fun o0=>
 some true) (fun r=>some r)))
instance (a:List YScan) (b:List YScan):CT Tryz.prog (Zdm a b):=⟨88,[.sl (a.map cScan),.sl (b.map cScan)],[],fun r=>vb r,fun r=>[],fun H=>by replace H:=H0 H; unfold Zdm at H; exact callM_of Tryz.func88 rfl Tryz.ntmps88 Tryz.results88 fun Q hQ hQn=>wk3⟩
def Zck (a:List YScan) (s0:Int × (List YScan)):Option ((Int × (List YScan)) ⊕ (List YScan)):=
 cond (decide (s0.1<(a.length:Int)))
 ((getI a s0.1).bind fun y1=>
 (Zcz y1).bind fun y2=>
 (getI s0.2 s0.1).bind fun y3=>
 some (.inl ((w64 (s0.1+1)),(s0.2.set (Int.toNat s0.1) y2))))
 (some (.inr s0.2))
instance (a:List YScan):LoopE (Zck a):=⟨fun s0=>(.sl (a.map cScan)::.un::.un::.ms 0::vi s0.1::(U 18 [])),fun s0=>[some ⟨.of 130,6,s0.2.map cScan⟩]⟩
def Zdo (a:List YScan):Option (List YScan):=
 (chk (mkOk (a.length:Int) 56)).bind fun _=>
 (iterF (Zck a) NN (0,(List.replicate (Int.toNat (a.length:Int)) (⟨0,0,0,⟨#[]⟩,(⟨0,0⟩:YTrip)⟩:YScan)))).bind (fun o0=>
 some o0)
theorem Zff (a:List YScan) {r:(List YScan)} (H:Zdo a=some r):CallM Tryz.prog 78 [.sl (a.map cScan)] [] (.ms 0) [some ⟨.of 130,6,r.map cScan⟩]:=by
 replace H:=H0 H
 unfold Zdo at H
 refine callM_of Tryz.func78 rfl Tryz.ntmps78 Tryz.results78 fun Q hQ hQn=>?_
 exact wk3
instance (a:List YScan):CT Tryz.prog (Zdo a):=⟨78,[.sl (a.map cScan)],[],fun r=>.ms 0,fun r=>[some ⟨.of 130,6,r.map cScan⟩],Zff a⟩
def ZaU (a:List YScan) (s0:Int × Int):Option ((Int × Int) ⊕ (Int ⊕ Int)):=
 cond (decide (s0.2<(a.length:Int)))
 ((getI a s0.2).bind fun y1=>
 (Zc7 y1 s0.1).bind fun y2=>
 cond (decide (y2<0))
 (some (.inr (.inr (-1))))
 (some (.inl (y2,(w64 (s0.2+1))))))
 (some (.inr (.inl s0.1)))
instance (a:List YScan):LoopE (ZaU a):=⟨fun s0=>(.sl (a.map cScan)::vi s0.1::(U 3 (vi s0.2::(U 21 [])))),fun s0=>[]⟩
def Zdn (a:List YScan) (left:Int):Option Int:=
 cond (decide ((w64 (left-(a.length:Int)))<0))
 (some (-1))
 ((iterF (ZaU a) NN ((w64 (left-(a.length:Int))),0)).bind (selim (fun o0=>
 some o0) (fun r=>some r)))
instance (a:List YScan) (left:Int):CT Tryz.prog (Zdn a left):=⟨68,[.sl (a.map cScan),vi left],[],fun r=>vi r,fun r=>[],fun H=>by replace H:=H0 H; unfold Zdn at H; exact callM_of Tryz.func68 rfl Tryz.ntmps68 Tryz.results68 fun Q hQ hQn=>wk3⟩
def ZaZ (a:YWorld) (b:YWorld):Option Bool:=
 (Zbf a.network b.network).bind fun y1=>
 cond (!y1)
 (some false)
 ((ZcX a.orders b.orders).bind fun y2=>
 cond (!y2)
 (some false)
 ((Zcf a.bookings b.bookings).bind fun y3=>
 cond (!y3)
 (some false)
 ((ZcL a.closed b.closed).bind fun y4=>
 cond (!y4)
 (some false)
 (cond (!decide (a.now=b.now))
 (some false)
 ((Zdm a.scans b.scans).bind fun y5=>
 cond (!y5)
 (some false)
 ((Zcx a.skip b.skip).bind fun y6=>
 cond (!y6)
 (some false)
 (cond (!decide (a.made=b.made))
 (some false)
 (some true))))))))
theorem Zey (a:YWorld) (b:YWorld) {r:Bool} (H:ZaZ a b=some r):CallM Tryz.prog 19 [.ag (cWorld a),.ag (cWorld b)] [] (vb r) []:=by
 replace H:=H0 H
 unfold ZaZ at H
 refine callM_of Tryz.func19 rfl Tryz.ntmps19 Tryz.results19 fun Q hQ hQn=>?_
 exact wk3
instance (a:YWorld) (b:YWorld):CT Tryz.prog (ZaZ a b):=⟨19,[.ag (cWorld a),.ag (cWorld b)],[],fun r=>vb r,fun r=>[],Zey a b⟩
def Zbv (a:YWorld) (left:Int):Option Int:=
 (ZcG a.network left).bind fun y1=>
 cond (decide (y1<0))
 (some (-1))
 ((ZcZ a.orders y1).bind fun y2=>
 cond (decide (y2<0))
 (some (-1))
 ((Zci a.bookings y2).bind fun y3=>
 cond (decide (y3<0))
 (some (-1))
 ((ZcN a.closed y3).bind fun y4=>
 cond (decide (y4<0))
 (some (-1))
 ((Zdn a.scans y4).bind fun y5=>
 cond (decide (y5<0))
 (some (-1))
 ((Zc6 a.skip y5).bind fun y6=>
 cond (decide (y6<0))
 (some (-1))
 (some y6))))))
theorem Zfe (a:YWorld) (left:Int) {r:Int} (H:Zbv a left=some r):CallM Tryz.prog 15 [.ag (cWorld a),vi left] [] (vi r) []:=by
 replace H:=H0 H
 unfold Zbv at H
 refine callM_of Tryz.func15 rfl Tryz.ntmps15 Tryz.results15 fun Q hQ hQn=>?_
 exact wk3
instance (a:YWorld) (left:Int):CT Tryz.prog (Zbv a left):=⟨15,[.ag (cWorld a),vi left],[],fun r=>vi r,fun r=>[],Zfe a left⟩
theorem ZhL {n:Nat} {b:Int} (h:n≤1048576) (hb:0≤b) (hb2:b≤134217728):mkOk (n:Int) b=true:=by
 refine decide_eq_true ⟨by omega,by omega,?_⟩
 have:b*(n:Int)≤134217728*1048576:=Int.mul_le_mul hb2 (by omega) (by omega) (by omega)
 omega
theorem Zbd {α:Type} (f:α→Nat) (xs:List α):xs.length≤totS f xs:=by unfold totS; omega
theorem Ze3 {α:Type} (f:α→Nat) {xs:List α} {y:α} (h:y∈xs):f y≤totS f xs:=by
 have:f y≤(xs.map f).sum:=by
  induction xs with
  | nil=>cases h
  | cons x xs ih=>
   simp only [List.map_cons,List.sum_cons]
   rcases List.mem_cons.1 h with rfl | h
   ·omega
   ·have:=ih h; omega
 unfold totS; omega
theorem Zkz {α:Type} {xs:List α} {f:α→Nat} {body:Int × Int→Option ((Int × Int) ⊕ (Int ⊕ Int))}
 (h1:∀ (i:Nat) (l:Int) x,xs[i]?=some x→0≤l→l≤1048576→body (l,(i:Int))=some (if l<f x then .inr (.inr (-1)) else .inl (l-f x,((i+1:Nat):Int))))
 (h2:∀ l,body (l,(xs.length:Int))=some (.inr (.inl l))) (hN:xs.length<NN) {l:Int} (hl:0≤l) (hl2:l≤1048576):
 iterF body NN (l,0)=some (if l<((xs.map f).sum:Nat) then .inr (-1) else .inl (l-((xs.map f).sum:Nat))):=by
 have key:∀ (ys:List α) (i N:Nat) (l:Int),xs.drop i=ys→i≤xs.length→ys.length<N→0≤l→l≤1048576→iterF body N (l,(i:Int))=some (if l<((ys.map f).sum:Nat) then .inr (-1) else .inl (l-((ys.map f).sum:Nat))):=by
  intro ys
  induction ys with
  | nil=>
   intro i N l hd hi hN h0 h1'
   cases N with
   | zero=>omega
   | succ N=>
    have:i=xs.length:=by have:=congrArg List.length hd; simp at this; omega
    subst this
    simp only [iterF,h2]
    show some (Sum.inl l)=_
    rw [if_neg (by simp; omega)]; simp
  | cons y ys ih=>
   intro i N l hd hi hN h0 h1'
   cases N with
   | zero=>simp at hN
   | succ N=>
    have hy:xs[i]?=some y:=by
     have:=congrArg (fun l=>l[0]?) hd
     simpa using this
    have hlt:i<xs.length:=(List.getElem?_eq_some_iff.1 hy).1
    have hd':xs.drop (i+1)=ys:=by
     have:=congrArg (List.drop 1) hd
     simpa [List.drop_drop] using this
    simp only [iterF,h1 i l y hy h0 h1',List.map_cons,List.sum_cons]
    by_cases hc:l<f y
    ·rw [if_pos hc,if_pos (by omega)]; rfl
    ·rw [if_neg hc]
     show iterF body N (l-f y,((i+1:Nat):Int))=_
     rw [ih (i+1) N _ hd' hlt (by simp at hN; omega) (by omega) (by omega)]
     by_cases hc2:l-f y<((ys.map f).sum:Nat)
     ·rw [if_pos hc2,if_pos (by omega)]
     ·rw [if_neg hc2,if_neg (by omega)]; congr 2; omega
 exact key xs 0 NN l rfl (Nat.zero_le _) hN hl hl2
theorem ZeK {l:Int} {n:Nat} (h:¬ szTo l n<0) (h0:0≤l):(n:Int)≤l∧szTo l n=l-n:=by
 rcases szTo_spec l n with ⟨_,e⟩ | ⟨h1,e⟩
 ·rw [e] at h; omega
 ·exact ⟨h1,e⟩
theorem Zqg (x:YLeg) (h:totLeg x≤1048576):ZcW x x=some true:=by
 simp [ZcW]
theorem Zqe (x:YLeg) (h:totLeg x≤1048576):Zc0 x=some x:=by
 simp [Zc0]
theorem ZrE (x:YLeg) {left:Int} (h0:0≤left) (h1:left≤1048576) (ok:okLeg x):ZdC x left=some (szTo left (totLeg x)):=by
 obtain ⟨k0,k1,k2,k3,k4,k5⟩:=ok
 have ht:totLeg x=x.from_.size+x.to_.size:=rfl
 unfold ZdC
 unfold okStr maxLen at k0
 rw [Zc (by omega)]
 by_cases c0:left-((x.from_.size:Nat):Int)<0
 ·rw [decide_eq_true c0]; show some (-1)=_; rw [ht]; rcases szTo_spec left (x.from_.size+x.to_.size) with ⟨h,e⟩ | ⟨h,e⟩; · rw [e]
  omega
 rw [decide_eq_false c0]; simp only [cond_false]
 obtain ⟨l1,hl1⟩:∃ l:Int,l=left-((x.from_.size:Nat):Int):=⟨_,rfl⟩
 rw [← hl1]
 unfold okStr maxLen at k1
 rw [Zc (by omega)]
 by_cases c1:l1-((x.to_.size:Nat):Int)<0
 ·rw [decide_eq_true c1]; show some (-1)=_; rw [ht]; rcases szTo_spec left (x.from_.size+x.to_.size) with ⟨h,e⟩ | ⟨h,e⟩; · rw [e]
  omega
 rw [decide_eq_false c1]; simp only [cond_false]
 obtain ⟨l2,hl2⟩:∃ l:Int,l=l1-((x.to_.size:Nat):Int):=⟨_,rfl⟩
 rw [← hl2]
 rw [ht]; rcases szTo_spec left (x.from_.size+x.to_.size) with ⟨h,e⟩ | ⟨h,e⟩
 ·omega
 ·rw [e]; (first | (congr 1; omega) | congr 1)
theorem Zlt (a:List YLeg) (hl:a.length≤1048576) (he:∀ x∈a,ZcW x x=some true):ZdL a a=some true:=by
 have e:iterF (ZcF a a) NN 0=some (.inl ()):=by
  refine ZeM (xs:=a) (fun i x hx=>?_) ?_ (by unfold NN; omega)
  ·obtain ⟨hi,rfl⟩:=List.getElem?_eq_some_iff.1 hx
   have hw:=Zt hi (by omega)
   have hx2:=he _ (List.mem_of_getElem? hx)
   simp [ZcF,Zd,hx,hi,hw,hx2]
  ·simp [ZcF]
 unfold ZdL; simp [e]
theorem ZoI (a:List YLeg) (hl:a.length≤1048576) (he:∀ x∈a,Zc0 x=some x):ZdO a=some a:=by
 have e:∀ z,iterF (ZcI a) NN (0,List.replicate a.length z)=some a:=by
  intro z
  refine Zfb (fun i out x hx ho=>?_) (fun out=>?_) (by unfold NN; omega)
  ·obtain ⟨hi,rfl⟩:=List.getElem?_eq_some_iff.1 hx
   have hw:=Zt hi (by omega)
   have hx3:out[i]?=some out[i]:=List.getElem?_eq_getElem (by omega)
   have hx2:=he _ (List.mem_of_getElem? hx)
   simp [ZcI,Zd,hx,hx3,hi,hw,hx2]
  ·simp [ZcI]
 unfold ZdO; rw [Zfw (ZhL hl (by decide) (by decide))]; simp [e]
theorem ZqS (a:List YLeg) {left:Int} (h0:0≤left) (h1:left≤1048576) (hl:a.length≤maxLen) (he:∀ x∈a,∀ l:Int,0≤l→l≤1048576→ZdC x l=some (szTo l (totLeg x))):ZdM a left=some (szTo left (totS totLeg a)):=by
 unfold maxLen at hl
 unfold ZdM
 rw [Zc (by omega)]
 by_cases hc:left-(a.length:Int)<0
 ·rw [decide_eq_true hc]; show some (-1)=_
  rcases szTo_spec left (totS totLeg a) with ⟨h,e⟩ | ⟨h,e⟩
  ·rw [e]
  ·have:=Zbd totLeg a; omega
 ·rw [decide_eq_false hc]
  have e:iterF (Zbh a) NN (left-(a.length:Int),0)=some (if left-(a.length:Int)<((a.map totLeg).sum:Nat) then .inr (-1) else .inl (left-(a.length:Int)-((a.map totLeg).sum:Nat))):=by
   refine Zkz (fun i l x hx h0 h1=>?_) (fun l=>?_) (by unfold NN; omega) (by omega) (by omega)
   ·obtain ⟨hi,rfl⟩:=List.getElem?_eq_some_iff.1 hx
    have hw:=Zt hi (by omega)
    have hx2:=he _ (List.mem_of_getElem? hx) l h0 h1
    rcases szTo_spec l (totLeg a[i]) with ⟨h,e⟩ | ⟨h,e⟩
    ·rw [e] at hx2; rw [if_pos h]; simp [Zbh,Zd,hx,hi,hx2]
    ·rw [e] at hx2; rw [if_neg (by omega)]; simp [Zbh,Zd,hx,hi,hx2,hw,show ¬ (l-(totLeg a[i]:Int)<0) by omega]
   ·simp [Zbh]
  show (iterF (Zbh a) NN (left-(a.length:Int),0)).bind _=_
  rw [e]
  have ht:totS totLeg a=a.length+(a.map totLeg).sum:=rfl
  rcases szTo_spec left (totS totLeg a) with ⟨h,e⟩ | ⟨h,e⟩
  ·rw [e,if_pos (by omega)]; rfl
  ·rw [e,if_neg (by omega)]; show some _=some _; congr 1; omega
theorem Zg4 (a:List Int) (hl:a.length≤1048576):Zcx a a=some true:=by
 have e:iterF (ZcE a a) NN 0=some (.inl ()):=by
  refine ZeM (xs:=a) (fun i x hx=>?_) ?_ (by unfold NN; omega)
  ·obtain ⟨hi,rfl⟩:=List.getElem?_eq_some_iff.1 hx
   have hw:=Zt hi (by omega)
   simp [ZcE,Zd,hx,hi,hw]
  ·simp [ZcE]
 unfold Zcx; simp [e]
theorem ZoH (a:List Int) (hl:a.length≤1048576):ZdN a=some a:=by
 have e:∀ z,iterF (ZcH a) NN (0,List.replicate a.length z)=some a:=by
  intro z
  refine Zfb (fun i out x hx ho=>?_) (fun out=>?_) (by unfold NN; omega)
  ·obtain ⟨hi,rfl⟩:=List.getElem?_eq_some_iff.1 hx
   have hw:=Zt hi (by omega)
   have hx3:out[i]?=some out[i]:=List.getElem?_eq_getElem (by omega)
   simp [ZcH,Zd,hx,hx3,hi,hw]
  ·simp [ZcH]
 unfold ZdN; rw [Zfw (ZhL hl (by decide) (by decide))]; simp [e]
theorem Zon (a:List Int) {left:Int} (h0:0≤left) (h1:left≤1048576) (hl:a.length≤maxLen):Zc6 a left=some (szTo left a.length):=by
 unfold maxLen at hl
 unfold Zc6
 rw [Zc (by omega)]
 rcases szTo_spec left a.length with ⟨h,e⟩ | ⟨h,e⟩
 ·rw [e,decide_eq_true (by omega)]; rfl
 ·rw [e,decide_eq_false (by omega)]; rfl
theorem Zkt (x:YNetwork) (h:totNetwork x≤1048576):Zbf x x=some true:=by
 have e0:=Zlt x.legs (by unfold totNetwork at h; have:=Zbd totLeg x.legs; omega) (fun y hy=>Zqg y (by unfold totNetwork at h; have:=Ze3 totLeg hy; omega))
 have e1:=Zg4 x.off (by unfold totNetwork at h; have:=Zbd totLeg x.legs; omega)
 simp [Zbf,e0,e1]
theorem ZmH (x:YNetwork) {left:Int} (h0:0≤left) (h1:left≤1048576) (ok:okNetwork x):ZcG x left=some (szTo left (totNetwork x)):=by
 obtain ⟨k0,k1,k2⟩:=ok
 have ht:totNetwork x=totS totLeg x.legs+x.off.length:=rfl
 unfold ZcG
 rw [ZqS x.legs (by omega) (by omega) k0.1 (fun y hy l g0 g1=>ZrE y g0 g1 (k0.2 y hy))]; simp only [Option.bind_some]
 by_cases c0:szTo left (totS totLeg x.legs)<0
 ·rw [decide_eq_true c0]; show some (-1)=_; rw [ht]; rcases szTo_spec left (totS totLeg x.legs) with ⟨h2,e2⟩ | ⟨h2,e2⟩; rcases szTo_spec left (totS totLeg x.legs+x.off.length) with ⟨h,e⟩ | ⟨h,e⟩; · rw [e]
  all_goals omega
 rw [decide_eq_false c0]; simp only [cond_false]
 obtain ⟨d0,e0⟩:=ZeK c0 (by omega)
 rw [e0]
 obtain ⟨l1,hl1⟩:∃ l:Int,l=left-((totS totLeg x.legs:Nat):Int):=⟨_,rfl⟩
 rw [← hl1]
 rw [Zon x.off (by omega) (by omega) k1.1]; simp only [Option.bind_some]
 by_cases c1:szTo l1 (x.off.length)<0
 ·rw [decide_eq_true c1]; show some (-1)=_; rw [ht]; rcases szTo_spec l1 (x.off.length) with ⟨h2,e2⟩ | ⟨h2,e2⟩; rcases szTo_spec left (totS totLeg x.legs+x.off.length) with ⟨h,e⟩ | ⟨h,e⟩; · rw [e]
  all_goals omega
 rw [decide_eq_false c1]; simp only [cond_false]
 obtain ⟨d1,e1⟩:=ZeK c1 (by omega)
 rw [e1]
 obtain ⟨l2,hl2⟩:∃ l:Int,l=l1-((x.off.length:Nat):Int):=⟨_,rfl⟩
 rw [← hl2]
 rw [ht]; rcases szTo_spec left (totS totLeg x.legs+x.off.length) with ⟨h,e⟩ | ⟨h,e⟩
 ·omega
 ·rw [e]; (first | (congr 1; omega) | congr 1)
theorem ZeS (x:YTrip):ZbP x x=some true:=by
 simp [ZbP]
theorem Zg2 (x:YTrip):Zbr x=some x:=by
 simp [Zbr]
theorem Zf0 (a:List YTrip) (hl:a.length≤1048576) (he:∀ x∈a,ZbP x x=some true):ZcL a a=some true:=by
 have e:iterF (Zch a a) NN 0=some (.inl ()):=by
  refine ZeM (xs:=a) (fun i x hx=>?_) ?_ (by unfold NN; omega)
  ·obtain ⟨hi,rfl⟩:=List.getElem?_eq_some_iff.1 hx
   have hw:=Zt hi (by omega)
   have hx2:=he _ (List.mem_of_getElem? hx)
   simp [Zch,Zd,hx,hi,hw,hx2]
  ·simp [Zch]
 unfold ZcL; simp [e]
theorem Zm6 (a:List YTrip) (hl:a.length≤1048576) (he:∀ x∈a,Zbr x=some x):Zdp a=some a:=by
 have e:∀ z,iterF (Zcl a) NN (0,List.replicate a.length z)=some a:=by
  intro z
  refine Zfb (fun i out x hx ho=>?_) (fun out=>?_) (by unfold NN; omega)
  ·obtain ⟨hi,rfl⟩:=List.getElem?_eq_some_iff.1 hx
   have hw:=Zt hi (by omega)
   have hx3:out[i]?=some out[i]:=List.getElem?_eq_getElem (by omega)
   have hx2:=he _ (List.mem_of_getElem? hx)
   simp [Zcl,Zd,hx,hx3,hi,hw,hx2]
  ·simp [Zcl]
 unfold Zdp; rw [Zfw (ZhL hl (by decide) (by decide))]; simp [e]
theorem Zl4 (a:List YTrip) {left:Int} (h0:0≤left) (h1:left≤1048576) (hl:a.length≤maxLen):ZcN a left=some (szTo left a.length):=by
 unfold maxLen at hl
 unfold ZcN
 rw [Zc (by omega)]
 rcases szTo_spec left a.length with ⟨h,e⟩ | ⟨h,e⟩
 ·rw [e,decide_eq_true (by omega)]; rfl
 ·rw [e,decide_eq_false (by omega)]; rfl
theorem Znk (x:YOrder) (h:totOrder x≤1048576):Zb0 x x=some true:=by
 have e0:=Zf0 x.way (by unfold totOrder at h; omega) (fun y hy=>ZeS y)
 simp [Zb0,e0]
theorem Zpo (x:YOrder) {left:Int} (h0:0≤left) (h1:left≤1048576) (ok:okOrder x):ZcM x left=some (szTo left (totOrder x)):=by
 obtain ⟨k0,k1,k2,k3,k4,k5,k6,k7,k8,k9,k10⟩:=ok
 have ht:totOrder x=x.from_.size+x.to_.size+x.way.length+x.place.size:=rfl
 unfold ZcM
 unfold okStr maxLen at k0
 rw [Zc (by omega)]
 by_cases c0:left-((x.from_.size:Nat):Int)<0
 ·rw [decide_eq_true c0]; show some (-1)=_; rw [ht]; rcases szTo_spec left (x.from_.size+x.to_.size+x.way.length+x.place.size) with ⟨h,e⟩ | ⟨h,e⟩; · rw [e]
  omega
 rw [decide_eq_false c0]; simp only [cond_false]
 obtain ⟨l1,hl1⟩:∃ l:Int,l=left-((x.from_.size:Nat):Int):=⟨_,rfl⟩
 rw [← hl1]
 unfold okStr maxLen at k1
 rw [Zc (by omega)]
 by_cases c1:l1-((x.to_.size:Nat):Int)<0
 ·rw [decide_eq_true c1]; show some (-1)=_; rw [ht]; rcases szTo_spec left (x.from_.size+x.to_.size+x.way.length+x.place.size) with ⟨h,e⟩ | ⟨h,e⟩; · rw [e]
  omega
 rw [decide_eq_false c1]; simp only [cond_false]
 obtain ⟨l2,hl2⟩:∃ l:Int,l=l1-((x.to_.size:Nat):Int):=⟨_,rfl⟩
 rw [← hl2]
 rw [Zl4 x.way (by omega) (by omega) k6.1]; simp only [Option.bind_some]
 by_cases c2:szTo l2 (x.way.length)<0
 ·rw [decide_eq_true c2]; show some (-1)=_; rw [ht]; rcases szTo_spec l2 (x.way.length) with ⟨h2,e2⟩ | ⟨h2,e2⟩; rcases szTo_spec left (x.from_.size+x.to_.size+x.way.length+x.place.size) with ⟨h,e⟩ | ⟨h,e⟩; · rw [e]
  all_goals omega
 rw [decide_eq_false c2]; simp only [cond_false]
 obtain ⟨d2,e2⟩:=ZeK c2 (by omega)
 rw [e2]
 obtain ⟨l3,hl3⟩:∃ l:Int,l=l2-((x.way.length:Nat):Int):=⟨_,rfl⟩
 rw [← hl3]
 unfold okStr maxLen at k9
 rw [Zc (by omega)]
 by_cases c3:l3-((x.place.size:Nat):Int)<0
 ·rw [decide_eq_true c3]; show some (-1)=_; rw [ht]; rcases szTo_spec left (x.from_.size+x.to_.size+x.way.length+x.place.size) with ⟨h,e⟩ | ⟨h,e⟩; · rw [e]
  omega
 rw [decide_eq_false c3]; simp only [cond_false]
 obtain ⟨l4,hl4⟩:∃ l:Int,l=l3-((x.place.size:Nat):Int):=⟨_,rfl⟩
 rw [← hl4]
 rw [ht]; rcases szTo_spec left (x.from_.size+x.to_.size+x.way.length+x.place.size) with ⟨h,e⟩ | ⟨h,e⟩
 ·omega
 ·rw [e]; (first | (congr 1; omega) | congr 1)
theorem Zil (a:List YOrder) (hl:a.length≤1048576) (he:∀ x∈a,Zb0 x x=some true):ZcX a a=some true:=by
 have e:iterF (ZbO a a) NN 0=some (.inl ()):=by
  refine ZeM (xs:=a) (fun i x hx=>?_) ?_ (by unfold NN; omega)
  ·obtain ⟨hi,rfl⟩:=List.getElem?_eq_some_iff.1 hx
   have hw:=Zt hi (by omega)
   have hx2:=he _ (List.mem_of_getElem? hx)
   simp [ZbO,Zd,hx,hi,hw,hx2]
  ·simp [ZbO]
 unfold ZcX; simp [e]
theorem Zoo (a:List YOrder) {left:Int} (h0:0≤left) (h1:left≤1048576) (hl:a.length≤maxLen) (he:∀ x∈a,∀ l:Int,0≤l→l≤1048576→ZcM x l=some (szTo l (totOrder x))):ZcZ a left=some (szTo left (totS totOrder a)):=by
 unfold maxLen at hl
 unfold ZcZ
 rw [Zc (by omega)]
 by_cases hc:left-(a.length:Int)<0
 ·rw [decide_eq_true hc]; show some (-1)=_
  rcases szTo_spec left (totS totOrder a) with ⟨h,e⟩ | ⟨h,e⟩
  ·rw [e]
  ·have:=Zbd totOrder a; omega
 ·rw [decide_eq_false hc]
  have e:iterF (ZaI a) NN (left-(a.length:Int),0)=some (if left-(a.length:Int)<((a.map totOrder).sum:Nat) then .inr (-1) else .inl (left-(a.length:Int)-((a.map totOrder).sum:Nat))):=by
   refine Zkz (fun i l x hx h0 h1=>?_) (fun l=>?_) (by unfold NN; omega) (by omega) (by omega)
   ·obtain ⟨hi,rfl⟩:=List.getElem?_eq_some_iff.1 hx
    have hw:=Zt hi (by omega)
    have hx2:=he _ (List.mem_of_getElem? hx) l h0 h1
    rcases szTo_spec l (totOrder a[i]) with ⟨h,e⟩ | ⟨h,e⟩
    ·rw [e] at hx2; rw [if_pos h]; simp [ZaI,Zd,hx,hi,hx2]
    ·rw [e] at hx2; rw [if_neg (by omega)]; simp [ZaI,Zd,hx,hi,hx2,hw,show ¬ (l-(totOrder a[i]:Int)<0) by omega]
   ·simp [ZaI]
  show (iterF (ZaI a) NN (left-(a.length:Int),0)).bind _=_
  rw [e]
  have ht:totS totOrder a=a.length+(a.map totOrder).sum:=rfl
  rcases szTo_spec left (totS totOrder a) with ⟨h,e⟩ | ⟨h,e⟩
  ·rw [e,if_pos (by omega)]; rfl
  ·rw [e,if_neg (by omega)]; show some _=some _; congr 1; omega
theorem Zhq (x:YBooking):ZbJ x x=some true:=by
 have e0:=ZeS x.trip
 simp [ZbJ,e0]
theorem Zks (x:YBooking):Zbi x=some x:=by
 have e0:=Zg2 x.trip
 simp [Zbi,e0]
theorem ZgI (a:List YBooking) (hl:a.length≤1048576) (he:∀ x∈a,ZbJ x x=some true):Zcf a a=some true:=by
 have e:iterF (Zbm a a) NN 0=some (.inl ()):=by
  refine ZeM (xs:=a) (fun i x hx=>?_) ?_ (by unfold NN; omega)
  ·obtain ⟨hi,rfl⟩:=List.getElem?_eq_some_iff.1 hx
   have hw:=Zt hi (by omega)
   have hx2:=he _ (List.mem_of_getElem? hx)
   simp [Zbm,Zd,hx,hi,hw,hx2]
  ·simp [Zbm]
 unfold Zcf; simp [e]
theorem Zji (a:List YBooking) (hl:a.length≤1048576) (he:∀ x∈a,Zbi x=some x):Zcj a=some a:=by
 have e:∀ z,iterF (Zbo a) NN (0,List.replicate a.length z)=some a:=by
  intro z
  refine Zfb (fun i out x hx ho=>?_) (fun out=>?_) (by unfold NN; omega)
  ·obtain ⟨hi,rfl⟩:=List.getElem?_eq_some_iff.1 hx
   have hw:=Zt hi (by omega)
   have hx3:out[i]?=some out[i]:=List.getElem?_eq_getElem (by omega)
   have hx2:=he _ (List.mem_of_getElem? hx)
   simp [Zbo,Zd,hx,hx3,hi,hw,hx2]
  ·simp [Zbo]
 unfold Zcj; rw [Zfw (ZhL hl (by decide) (by decide))]; simp [e]
theorem Zk0 (a:List YBooking) {left:Int} (h0:0≤left) (h1:left≤1048576) (hl:a.length≤maxLen):Zci a left=some (szTo left a.length):=by
 unfold maxLen at hl
 unfold Zci
 rw [Zc (by omega)]
 rcases szTo_spec left a.length with ⟨h,e⟩ | ⟨h,e⟩
 ·rw [e,decide_eq_true (by omega)]; rfl
 ·rw [e,decide_eq_false (by omega)]; rfl
theorem ZoK (x:YScan) (h:totScan x≤1048576):Zcy x x=some true:=by
 have e0:=ZeS x.trip
 simp [Zcy,e0]
theorem ZoJ (x:YScan) (h:totScan x≤1048576):Zcz x=some x:=by
 have e0:=Zg2 x.trip
 simp [Zcz,e0]
theorem ZqT (x:YScan) {left:Int} (h0:0≤left) (h1:left≤1048576) (ok:okScan x):Zc7 x left=some (szTo left (totScan x)):=by
 obtain ⟨k0,k1,k2,k3,k4⟩:=ok
 have ht:totScan x=x.place.size:=rfl
 unfold Zc7
 unfold okStr maxLen at k3
 rw [Zc (by omega)]
 by_cases c0:left-((x.place.size:Nat):Int)<0
 ·rw [decide_eq_true c0]; show some (-1)=_; rw [ht]; rcases szTo_spec left (x.place.size) with ⟨h,e⟩ | ⟨h,e⟩; · rw [e]
  omega
 rw [decide_eq_false c0]; simp only [cond_false]
 obtain ⟨l1,hl1⟩:∃ l:Int,l=left-((x.place.size:Nat):Int):=⟨_,rfl⟩
 rw [← hl1]
 rw [ht]; rcases szTo_spec left (x.place.size) with ⟨h,e⟩ | ⟨h,e⟩
 ·omega
 ·rw [e]; (first | (congr 1; omega) | congr 1)
theorem Zjo (a:List YScan) (hl:a.length≤1048576) (he:∀ x∈a,Zcy x x=some true):Zdm a a=some true:=by
 have e:iterF (Zcg a a) NN 0=some (.inl ()):=by
  refine ZeM (xs:=a) (fun i x hx=>?_) ?_ (by unfold NN; omega)
  ·obtain ⟨hi,rfl⟩:=List.getElem?_eq_some_iff.1 hx
   have hw:=Zt hi (by omega)
   have hx2:=he _ (List.mem_of_getElem? hx)
   simp [Zcg,Zd,hx,hi,hw,hx2]
  ·simp [Zcg]
 unfold Zdm; simp [e]
theorem Zm5 (a:List YScan) (hl:a.length≤1048576) (he:∀ x∈a,Zcz x=some x):Zdo a=some a:=by
 have e:∀ z,iterF (Zck a) NN (0,List.replicate a.length z)=some a:=by
  intro z
  refine Zfb (fun i out x hx ho=>?_) (fun out=>?_) (by unfold NN; omega)
  ·obtain ⟨hi,rfl⟩:=List.getElem?_eq_some_iff.1 hx
   have hw:=Zt hi (by omega)
   have hx3:out[i]?=some out[i]:=List.getElem?_eq_getElem (by omega)
   have hx2:=he _ (List.mem_of_getElem? hx)
   simp [Zck,Zd,hx,hx3,hi,hw,hx2]
  ·simp [Zck]
 unfold Zdo; rw [Zfw (ZhL hl (by decide) (by decide))]; simp [e]
theorem Zpp (a:List YScan) {left:Int} (h0:0≤left) (h1:left≤1048576) (hl:a.length≤maxLen) (he:∀ x∈a,∀ l:Int,0≤l→l≤1048576→Zc7 x l=some (szTo l (totScan x))):Zdn a left=some (szTo left (totS totScan a)):=by
 unfold maxLen at hl
 unfold Zdn
 rw [Zc (by omega)]
 by_cases hc:left-(a.length:Int)<0
 ·rw [decide_eq_true hc]; show some (-1)=_
  rcases szTo_spec left (totS totScan a) with ⟨h,e⟩ | ⟨h,e⟩
  ·rw [e]
  ·have:=Zbd totScan a; omega
 ·rw [decide_eq_false hc]
  have e:iterF (ZaU a) NN (left-(a.length:Int),0)=some (if left-(a.length:Int)<((a.map totScan).sum:Nat) then .inr (-1) else .inl (left-(a.length:Int)-((a.map totScan).sum:Nat))):=by
   refine Zkz (fun i l x hx h0 h1=>?_) (fun l=>?_) (by unfold NN; omega) (by omega) (by omega)
   ·obtain ⟨hi,rfl⟩:=List.getElem?_eq_some_iff.1 hx
    have hw:=Zt hi (by omega)
    have hx2:=he _ (List.mem_of_getElem? hx) l h0 h1
    rcases szTo_spec l (totScan a[i]) with ⟨h,e⟩ | ⟨h,e⟩
    ·rw [e] at hx2; rw [if_pos h]; simp [ZaU,Zd,hx,hi,hx2]
    ·rw [e] at hx2; rw [if_neg (by omega)]; simp [ZaU,Zd,hx,hi,hx2,hw,show ¬ (l-(totScan a[i]:Int)<0) by omega]
   ·simp [ZaU]
  show (iterF (ZaU a) NN (left-(a.length:Int),0)).bind _=_
  rw [e]
  have ht:totS totScan a=a.length+(a.map totScan).sum:=rfl
  rcases szTo_spec left (totS totScan a) with ⟨h,e⟩ | ⟨h,e⟩
  ·rw [e,if_pos (by omega)]; rfl
  ·rw [e,if_neg (by omega)]; show some _=some _; congr 1; omega
theorem Znl (x:YWorld) (h:totWorld x≤1048576):ZaZ x x=some true:=by
 have e0:=Zkt x.network (by unfold totWorld at h; have:=Zbd totOrder x.orders; have:=Zbd totScan x.scans; omega)
 have e1:=Zil x.orders (by unfold totWorld at h; have:=Zbd totOrder x.orders; have:=Zbd totScan x.scans; omega) (fun y hy=>Znk y (by unfold totWorld at h; have:=Ze3 totOrder hy; omega))
 have e2:=ZgI x.bookings (by unfold totWorld at h; have:=Zbd totOrder x.orders; have:=Zbd totScan x.scans; omega) (fun y hy=>Zhq y)
 have e3:=Zf0 x.closed (by unfold totWorld at h; have:=Zbd totOrder x.orders; have:=Zbd totScan x.scans; omega) (fun y hy=>ZeS y)
 have e4:=Zjo x.scans (by unfold totWorld at h; have:=Zbd totOrder x.orders; have:=Zbd totScan x.scans; omega) (fun y hy=>ZoK y (by unfold totWorld at h; have:=Ze3 totScan hy; omega))
 have e5:=Zg4 x.skip (by unfold totWorld at h; have:=Zbd totOrder x.orders; have:=Zbd totScan x.scans; omega)
 simp [ZaZ,e0,e1,e2,e3,e4,e5]
theorem Zpq (x:YWorld) {left:Int} (h0:0≤left) (h1:left≤1048576) (ok:okWorld x):Zbv x left=some (szTo left (totWorld x)):=by
 obtain ⟨k0,k1,k2,k3,k4,k5,k6,k7⟩:=ok
 have ht:totWorld x=totNetwork x.network+totS totOrder x.orders+x.bookings.length+x.closed.length+totS totScan x.scans+x.skip.length:=rfl
 unfold Zbv
 rw [ZmH x.network (by omega) (by omega) k0]; simp only [Option.bind_some]
 by_cases c0:szTo left (totNetwork x.network)<0
 ·rw [decide_eq_true c0]; show some (-1)=_; rw [ht]; rcases szTo_spec left (totNetwork x.network) with ⟨h2,e2⟩ | ⟨h2,e2⟩; rcases szTo_spec left (totNetwork x.network+totS totOrder x.orders+x.bookings.length+x.closed.length+totS totScan x.scans+x.skip.length) with ⟨h,e⟩ | ⟨h,e⟩; · rw [e]
  all_goals omega
 rw [decide_eq_false c0]; simp only [cond_false]
 obtain ⟨d0,e0⟩:=ZeK c0 (by omega)
 rw [e0]
 obtain ⟨l1,hl1⟩:∃ l:Int,l=left-((totNetwork x.network:Nat):Int):=⟨_,rfl⟩
 rw [← hl1]
 rw [Zoo x.orders (by omega) (by omega) k1.1 (fun y hy l g0 g1=>Zpo y g0 g1 (k1.2 y hy))]; simp only [Option.bind_some]
 by_cases c1:szTo l1 (totS totOrder x.orders)<0
 ·rw [decide_eq_true c1]; show some (-1)=_; rw [ht]; rcases szTo_spec l1 (totS totOrder x.orders) with ⟨h2,e2⟩ | ⟨h2,e2⟩; rcases szTo_spec left (totNetwork x.network+totS totOrder x.orders+x.bookings.length+x.closed.length+totS totScan x.scans+x.skip.length) with ⟨h,e⟩ | ⟨h,e⟩; · rw [e]
  all_goals omega
 rw [decide_eq_false c1]; simp only [cond_false]
 obtain ⟨d1,e1⟩:=ZeK c1 (by omega)
 rw [e1]
 obtain ⟨l2,hl2⟩:∃ l:Int,l=l1-((totS totOrder x.orders:Nat):Int):=⟨_,rfl⟩
 rw [← hl2]
 rw [Zk0 x.bookings (by omega) (by omega) k2.1]; simp only [Option.bind_some]
 by_cases c2:szTo l2 (x.bookings.length)<0
 ·rw [decide_eq_true c2]; show some (-1)=_; rw [ht]; rcases szTo_spec l2 (x.bookings.length) with ⟨h2,e2⟩ | ⟨h2,e2⟩; rcases szTo_spec left (totNetwork x.network+totS totOrder x.orders+x.bookings.length+x.closed.length+totS totScan x.scans+x.skip.length) with ⟨h,e⟩ | ⟨h,e⟩; · rw [e]
  all_goals omega
 rw [decide_eq_false c2]; simp only [cond_false]
 obtain ⟨d2,e2⟩:=ZeK c2 (by omega)
 rw [e2]
 obtain ⟨l3,hl3⟩:∃ l:Int,l=l2-((x.bookings.length:Nat):Int):=⟨_,rfl⟩
 rw [← hl3]
 rw [Zl4 x.closed (by omega) (by omega) k3.1]; simp only [Option.bind_some]
 by_cases c3:szTo l3 (x.closed.length)<0
 ·rw [decide_eq_true c3]; show some (-1)=_; rw [ht]; rcases szTo_spec l3 (x.closed.length) with ⟨h2,e2⟩ | ⟨h2,e2⟩; rcases szTo_spec left (totNetwork x.network+totS totOrder x.orders+x.bookings.length+x.closed.length+totS totScan x.scans+x.skip.length) with ⟨h,e⟩ | ⟨h,e⟩; · rw [e]
  all_goals omega
 rw [decide_eq_false c3]; simp only [cond_false]
 obtain ⟨d3,e3⟩:=ZeK c3 (by omega)
 rw [e3]
 obtain ⟨l4,hl4⟩:∃ l:Int,l=l3-((x.closed.length:Nat):Int):=⟨_,rfl⟩
 rw [← hl4]
 rw [Zpp x.scans (by omega) (by omega) k5.1 (fun y hy l g0 g1=>ZqT y g0 g1 (k5.2 y hy))]; simp only [Option.bind_some]
 by_cases c4:szTo l4 (totS totScan x.scans)<0
 ·rw [decide_eq_true c4]; show some (-1)=_; rw [ht]; rcases szTo_spec l4 (totS totScan x.scans) with ⟨h2,e2⟩ | ⟨h2,e2⟩; rcases szTo_spec left (totNetwork x.network+totS totOrder x.orders+x.bookings.length+x.closed.length+totS totScan x.scans+x.skip.length) with ⟨h,e⟩ | ⟨h,e⟩; · rw [e]
  all_goals omega
 rw [decide_eq_false c4]; simp only [cond_false]
 obtain ⟨d4,e4⟩:=ZeK c4 (by omega)
 rw [e4]
 obtain ⟨l5,hl5⟩:∃ l:Int,l=l4-((totS totScan x.scans:Nat):Int):=⟨_,rfl⟩
 rw [← hl5]
 rw [Zon x.skip (by omega) (by omega) k6.1]; simp only [Option.bind_some]
 by_cases c5:szTo l5 (x.skip.length)<0
 ·rw [decide_eq_true c5]; show some (-1)=_; rw [ht]; rcases szTo_spec l5 (x.skip.length) with ⟨h2,e2⟩ | ⟨h2,e2⟩; rcases szTo_spec left (totNetwork x.network+totS totOrder x.orders+x.bookings.length+x.closed.length+totS totScan x.scans+x.skip.length) with ⟨h,e⟩ | ⟨h,e⟩; · rw [e]
  all_goals omega
 rw [decide_eq_false c5]; simp only [cond_false]
 obtain ⟨d5,e5⟩:=ZeK c5 (by omega)
 rw [e5]
 obtain ⟨l6,hl6⟩:∃ l:Int,l=l5-((x.skip.length:Nat):Int):=⟨_,rfl⟩
 rw [← hl6]
 rw [ht]; rcases szTo_spec left (totNetwork x.network+totS totOrder x.orders+x.bookings.length+x.closed.length+totS totScan x.scans+x.skip.length) with ⟨h,e⟩ | ⟨h,e⟩
 ·omega
 ·rw [e]; (first | (congr 1; omega) | congr 1)
theorem arg1 {w:World} {S:Nat→Prop} {p:PV} {v:Value} (h:RepC w S p v):∀ (i:Nat) (q:PV),[p][i]?=some q→∃ x,#[v][i]?=some x∧Rep w (E1 S (fun _=>none) 0) q x:=by
 intro i q hq
 cases i with
 | zero=>obtain rfl:p=q:=by simpa using hq
         exact ⟨v,rfl,.c h⟩
 | succ i=>simp at hq
theorem ZoR (x:YLeg) (p:PV) (hp:p∈cLeg x):isC1 p=true:=by
 simp [cLeg] at hp
 rcases hp with rfl | rfl | rfl | rfl | rfl | rfl <;> rfl
theorem ZoQ (x:Int) (p:PV) (hp:p∈cInt x):isC1 p=true:=by
 simp [cInt] at hp
 rcases hp with rfl <;> rfl
theorem Zny (x:YTrip) (p:PV) (hp:p∈cTrip x):isC1 p=true:=by
 simp [cTrip] at hp
 rcases hp with rfl | rfl <;> rfl
theorem Zjy (x:YBooking) (p:PV) (hp:p∈cBooking x):isC1 p=true:=by
 simp [cBooking,cTrip] at hp
 rcases hp with rfl | rfl | rfl | rfl <;> rfl
theorem Znx (x:YScan) (p:PV) (hp:p∈cScan x):isC1 p=true:=by
 simp [cScan,cTrip] at hp
 rcases hp with rfl | rfl | rfl | rfl | rfl | rfl <;> rfl
theorem Zpr (xs:List YLeg) (he:∀ x∈xs,Zc0 x=some x) (hl:xs.length≤1048576) {S:Nat→Prop} {v:Value} {w:World} (hS:∀ b,S b→b<w.heap.size) (hr:RepC w S (.sl (xs.map cLeg)) v):
 Calls Tryz.prog 165 #[v] w fun e w'=>∃ v',e=.returned v'∧Up w w'∧Zak w' w.heap.size 67 6 v' xs.length∧RepC w' (NewS S w w') (.sl (xs.map cLeg)) v':=by
 have h:=CallM.fresh (ZfE xs (ZoI xs hl he)) (by intro cs hcs p hp; obtain ⟨x,_,rfl⟩:=List.mem_map.1 hcs; exact ZoR x p hp) hS (vs:=#[v]) rfl (arg1 hr)
 simpa only [List.length_map] using h
theorem Zl5 (xs:List Int) (hl:xs.length≤1048576) {S:Nat→Prop} {v:Value} {w:World} (hS:∀ b,S b→b<w.heap.size) (hr:RepC w S (.sl (xs.map cInt)) v):
 Calls Tryz.prog 79 #[v] w fun e w'=>∃ v',e=.returned v'∧Up w w'∧Zak w' w.heap.size 3 1 v' xs.length∧RepC w' (NewS S w w') (.sl (xs.map cInt)) v':=by
 have h:=CallM.fresh (ZfD xs (ZoH xs hl)) (by intro cs hcs p hp; obtain ⟨x,_,rfl⟩:=List.mem_map.1 hcs; exact ZoQ x p hp) hS (vs:=#[v]) rfl (arg1 hr)
 simpa only [List.length_map] using h
theorem Zkf (xs:List YTrip) (he:∀ x∈xs,Zbr x=some x) (hl:xs.length≤1048576) {S:Nat→Prop} {v:Value} {w:World} (hS:∀ b,S b→b<w.heap.size) (hr:RepC w S (.sl (xs.map cTrip)) v):
 Calls Tryz.prog 77 #[v] w fun e w'=>∃ v',e=.returned v'∧Up w w'∧Zak w' w.heap.size 55 2 v' xs.length∧RepC w' (NewS S w w') (.sl (xs.map cTrip)) v':=by
 have h:=CallM.fresh (Zfg xs (Zm6 xs hl he)) (by intro cs hcs p hp; obtain ⟨x,_,rfl⟩:=List.mem_map.1 hcs; exact Zny x p hp) hS (vs:=#[v]) rfl (arg1 hr)
 simpa only [List.length_map] using h
theorem Zke (xs:List YBooking) (he:∀ x∈xs,Zbi x=some x) (hl:xs.length≤1048576) {S:Nat→Prop} {v:Value} {w:World} (hS:∀ b,S b→b<w.heap.size) (hr:RepC w S (.sl (xs.map cBooking)) v):
 Calls Tryz.prog 76 #[v] w fun e w'=>∃ v',e=.returned v'∧Up w w'∧Zak w' w.heap.size 135 4 v' xs.length∧RepC w' (NewS S w w') (.sl (xs.map cBooking)) v':=by
 have h:=CallM.fresh (ZeF xs (Zji xs hl he)) (by intro cs hcs p hp; obtain ⟨x,_,rfl⟩:=List.mem_map.1 hcs; exact Zjy x p hp) hS (vs:=#[v]) rfl (arg1 hr)
 simpa only [List.length_map] using h
theorem Zos (xs:List YScan) (he:∀ x∈xs,Zcz x=some x) (hl:xs.length≤1048576) {S:Nat→Prop} {v:Value} {w:World} (hS:∀ b,S b→b<w.heap.size) (hr:RepC w S (.sl (xs.map cScan)) v):
 Calls Tryz.prog 78 #[v] w fun e w'=>∃ v',e=.returned v'∧Up w w'∧Zak w' w.heap.size 130 6 v' xs.length∧RepC w' (NewS S w w') (.sl (xs.map cScan)) v':=by
 have h:=CallM.fresh (Zff xs (Zm5 xs hl he)) (by intro cs hcs p hp; obtain ⟨x,_,rfl⟩:=List.mem_map.1 hcs; exact Znx x p hp) hS (vs:=#[v]) rfl (arg1 hr)
 simpa only [List.length_map] using h
theorem Zak.form {w:World} {B:Nat} {T:TypeId} {k:Nat} {v:Value} {n:Nat} (h:Zak w B T k v n):∃ A c,v=.slice A n c:=by
 rcases h with ⟨c,rfl,rfl⟩ | ⟨g,c,cs,rfl,_⟩
 ·exact ⟨none,c,rfl⟩
 ·exact ⟨_,c,rfl⟩
theorem Zs {w:World} {S:Nat→Prop} {es:List (List PV)} {v:Value} (h:RepC w S (.sl es) v):∃ A c,v=.slice A es.length c:=by
 generalize hq:PV.sl es=q at h
 cases h with
 | v x h=>cases hq
 | ud=>cases hq
 | un=>cases hq
 | rp=>cases hq
 | fn=>cases hq
 | nil A c=>obtain rfl:es=[]:=by simpa using hq
            exact ⟨A,c,rfl⟩
 | sl es' b off k c u=>obtain rfl:es=es':=by simpa using hq
                       exact ⟨_,c,rfl⟩
theorem ZbM {w:World} {o ob:Obj} {b:Nat} (h:w.heap[b]?=some ob):(w.alloc o).heap[b]?=some ob:=((Up.al o (Up.rfl' w)).block b (Array.getElem?_eq_some_iff.1 h).1).trans h
theorem Zc4 {w:World} {n:Nat} (hn:n=w.heap.size) (o:Obj):(w.alloc o).heap[n]?=some o:=by subst hn; exact heap_alloc_new w o
theorem Zak.sc {w:World} {B:Nat} {T:TypeId} {k:Nat} {v:Value} {n:Nat} (h:Zak w B T k v n) {g j:Nat} (hg:g<B) (u:Value):Zak (w.setCell ⟨g,j,none⟩ u) B T k v n:=by
 rcases h with h | ⟨b,c,cs,h1,h2,h3,h4⟩
 ·exact .inl h
 ·exact .inr ⟨b,c,cs,h1,h2,(heap_setCell_other w ⟨g,j,none⟩ b u (by simp only; omega)).trans h3,h4⟩
theorem RepC.sc {w:World} {S:Nat→Prop} {p:PV} {x:Value} (h:RepC w S p x) {g j:Nat} (hg:∀ b,S b→b≠g) (u:Value):RepC (w.setCell ⟨g,j,none⟩ u) S p x:=
 h.ext (fun _ hb=>hb) (fun b q hb=>Zbt (heap_setCell_other w ⟨g,j,none⟩ b u (hg b hb)))
def ordV (o:YOrder) (x:Value):Array Value:=#[.string o.from_,.string o.to_,I o.service,I o.weight,I o.at_,I o.due,x,I o.gone,I o.state,.string o.place,I o.ended]
theorem Zk3 {o:YOrder} {S:Nat→Prop} {w wb w1 w2 wf:World} {A:Option Addr} {c:Nat} {O Z c1 c2:Array Value} (hS:∀ b,S b→b<w.heap.size) (hub:Up w wb) (hsz:wb.heap.size=w.heap.size+3) (hu1:Up wb w1)
 (hs1:Zak w1 wb.heap.size 55 2 (.slice A o.way.length c) o.way.length) (hr1:RepC w1 (NewS S wb w1) (.sl (o.way.map cTrip)) (.slice A o.way.length c))
 (hO:w1.heap[w.heap.size+1+1]?=some (.cells O 62 (0,0))) (k1:Wr (w.heap.size+1+1) 62 w1 w2 c1) (hP:w2.heap[w.heap.size+1]?=some (.cells Z 62 (0,0))) (k2:Wr (w.heap.size+1) 62 w2 wf c2):
 Up w wf∧Zak wf w.heap.size 55 2 (.slice A o.way.length c) o.way.length∧RepC wf (NewS S w wf) (.sl (o.way.map cTrip)) (.slice A o.way.length c):=by
 have s1:=hu1.size
 refine ⟨⟨k2.os.trans (k1.os.trans (hu1.os.trans hub.os)),k2.tape.trans (k1.tape.trans (hu1.tape.trans hub.tape)),k2.output.trans (k1.output.trans (hu1.output.trans hub.output)),by rw [k2.size,k1.size]; omega,fun b hb=>?_⟩,?_,?_⟩
 ·rw [k2.oth b (by omega),k1.oth b (by omega),hu1.block b (by omega),hub.block b hb]
 ·exact ((hs1.wr k1 hO (by decide)).wr k2 hP (by decide)).more (by omega)
 ·refine ((hr1.wr k1 ?_).wr k2 ?_).ext ?_ (fun _ _ _=>rfl)
  ·rintro b (h | h)
   ·have:=hS b h; omega
   ·omega
  ·rintro b (h | h)
   ·have:=hS b h; omega
   ·omega
  ·rintro b (h | h)
   ·exact .inl h
   ·exact .inr ⟨by omega,by rw [k2.size,k1.size]; exact h.2⟩
set_option maxHeartbeats 1000000 in
set_option maxRecDepth 100000 in
theorem Zor (o:YOrder) (hl:o.way.length≤1048576) {S:Nat→Prop} {u6:Value} {w:World} (hS:∀ b,S b→b<w.heap.size) (hr:RepC w S (.sl (o.way.map cTrip)) u6):
 Calls Tryz.prog 166 #[.agg #[.string o.from_,.string o.to_,I o.service,I o.weight,I o.at_,I o.due,u6,I o.gone,I o.state,.string o.place,I o.ended]] w fun e w'=>∃ A c,e=.returned (.agg #[.string o.from_,.string o.to_,I o.service,I o.weight,I o.at_,I o.due,.slice A o.way.length c,I o.gone,I o.state,.string o.place,I o.ended])∧Up w w'∧Zak w' w.heap.size 55 2 (.slice A o.way.length c) o.way.length∧RepC w' (NewS S w w') (.sl (o.way.map cTrip)) (.slice A o.way.length c):=by
 obtain ⟨A6,c6,rfl⟩:=Zs hr
 have hr0:=Lib.hid hr
 clear hr
 go_enter Tryz.func166,Tryz.ntmps166
 go_wp2_with fail
 generalize hwb:World.alloc (World.alloc (World.alloc w _) _) _=wb
 have hA:wb.heap[w.heap.size]?=some (.cells #[.string o.from_,.string o.to_,I o.service,I o.weight,I o.at_,I o.due,.slice A6 o.way.length c6,I o.gone,I o.state,.string o.place,I o.ended] 169 (0,0)):=by rw [← hwb]; exact ZbM (ZbM (heap_alloc_new w _))
 have hP:wb.heap[w.heap.size+1]?=some (.cells #[.string ⟨#[]⟩,.string ⟨#[]⟩,I 0,I 0,I 0,I 0,.slice none 0 0,I 0,I 0,.string ⟨#[]⟩,I 0] 62 (0,0)):=by rw [← hwb]; exact ZbM (Zc4 (by simp) _)
 have hO:wb.heap[w.heap.size+1+1]?=some (.cells #[.string o.from_,.string o.to_,I o.service,I o.weight,I o.at_,I o.due,.slice none 0 0,I 0,I 0,.string ⟨#[]⟩,I 0] 62 (0,0)):=by rw [← hwb]; exact Zc4 (by simp) _
 have hub:Up w wb:=by rw [← hwb]; (repeat (first | exact Up.rfl' _ | (refine Up.al _ ?_) | (refine Up.dr _ ?_) | (refine Up.dr1 ?_) | (refine Up.sc ?_ (by first | exact Nat.le_refl _ | (simp; done) | omega) _) | (refine Up.step (by assumption) ?_)))
 have hsz:wb.heap.size=w.heap.size+3:=by rw [← hwb]; simp
 clear hwb
 have hrb:RepC wb S (.sl (o.way.map cTrip)) (.slice A6 o.way.length c6):=by
  have h_:=hr0.out.ext (w':=wb) (S':=S) (fun _ h=>h) (fun b q h=>hub.cell (p:=⟨b,q,none⟩) (hS b h))
  simpa only [List.length_map] using h_
 refine (Zkf o.way (fun x _=>Zg2 x) hl (S:=S) (fun b h=>Nat.lt_of_lt_of_le (hS b h) hub.size) hrb).mono ?_
 rintro e w1 ⟨v',rfl,hu1,hs1,hr1⟩
 obtain ⟨A,c,rfl⟩:=hs1.form
 replace hA:=(hu1.block _ (Array.getElem?_eq_some_iff.1 hA).1).trans hA
 replace hP:=(hu1.block _ (Array.getElem?_eq_some_iff.1 hP).1).trans hP
 replace hO:=(hu1.block _ (Array.getElem?_eq_some_iff.1 hO).1).trans hO
 have a7:w1.cell? ⟨w.heap.size,7,none⟩=some (I o.gone):=by rw [cell_of_row _ _ _ _ _ _ hA]; rfl
 have a8:w1.cell? ⟨w.heap.size,8,none⟩=some (I o.state):=by rw [cell_of_row _ _ _ _ _ _ hA]; rfl
 have a9:w1.cell? ⟨w.heap.size,9,none⟩=some (.string o.place):=by rw [cell_of_row _ _ _ _ _ _ hA]; rfl
 have a10:w1.cell? ⟨w.heap.size,10,none⟩=some (I o.ended):=by rw [cell_of_row _ _ _ _ _ _ hA]; rfl
 have o0:w1.cell? ⟨w.heap.size+1+1,0,none⟩=some (.string o.from_):=by rw [cell_of_row _ _ _ _ _ _ hO]; rfl
 have p0:w1.cell? ⟨w.heap.size+1,0,none⟩=some (.string ⟨#[]⟩):=by rw [cell_of_row _ _ _ _ _ _ hP]; rfl
 have fp0:w1.frozen? ⟨w.heap.size+1,0,none⟩=false:=frozen_of_row _ _ _ _ _ hP
 have o1:w1.cell? ⟨w.heap.size+1+1,1,none⟩=some (.string o.to_):=by rw [cell_of_row _ _ _ _ _ _ hO]; rfl
 have p1:w1.cell? ⟨w.heap.size+1,1,none⟩=some (.string ⟨#[]⟩):=by rw [cell_of_row _ _ _ _ _ _ hP]; rfl
 have fp1:w1.frozen? ⟨w.heap.size+1,1,none⟩=false:=frozen_of_row _ _ _ _ _ hP
 have o2:w1.cell? ⟨w.heap.size+1+1,2,none⟩=some (I o.service):=by rw [cell_of_row _ _ _ _ _ _ hO]; rfl
 have p2:w1.cell? ⟨w.heap.size+1,2,none⟩=some (I 0):=by rw [cell_of_row _ _ _ _ _ _ hP]; rfl
 have fp2:w1.frozen? ⟨w.heap.size+1,2,none⟩=false:=frozen_of_row _ _ _ _ _ hP
 have o3:w1.cell? ⟨w.heap.size+1+1,3,none⟩=some (I o.weight):=by rw [cell_of_row _ _ _ _ _ _ hO]; rfl
 have p3:w1.cell? ⟨w.heap.size+1,3,none⟩=some (I 0):=by rw [cell_of_row _ _ _ _ _ _ hP]; rfl
 have fp3:w1.frozen? ⟨w.heap.size+1,3,none⟩=false:=frozen_of_row _ _ _ _ _ hP
 have o4:w1.cell? ⟨w.heap.size+1+1,4,none⟩=some (I o.at_):=by rw [cell_of_row _ _ _ _ _ _ hO]; rfl
 have p4:w1.cell? ⟨w.heap.size+1,4,none⟩=some (I 0):=by rw [cell_of_row _ _ _ _ _ _ hP]; rfl
 have fp4:w1.frozen? ⟨w.heap.size+1,4,none⟩=false:=frozen_of_row _ _ _ _ _ hP
 have o5:w1.cell? ⟨w.heap.size+1+1,5,none⟩=some (I o.due):=by rw [cell_of_row _ _ _ _ _ _ hO]; rfl
 have p5:w1.cell? ⟨w.heap.size+1,5,none⟩=some (I 0):=by rw [cell_of_row _ _ _ _ _ _ hP]; rfl
 have fp5:w1.frozen? ⟨w.heap.size+1,5,none⟩=false:=frozen_of_row _ _ _ _ _ hP
 have o6:w1.cell? ⟨w.heap.size+1+1,6,none⟩=some (.slice none 0 0):=by rw [cell_of_row _ _ _ _ _ _ hO]; rfl
 have fo6:w1.frozen? ⟨w.heap.size+1+1,6,none⟩=false:=frozen_of_row _ _ _ _ _ hO
 have p6:w1.cell? ⟨w.heap.size+1,6,none⟩=some (.slice none 0 0):=by rw [cell_of_row _ _ _ _ _ _ hP]; rfl
 have fp6:w1.frozen? ⟨w.heap.size+1,6,none⟩=false:=frozen_of_row _ _ _ _ _ hP
 have o7:w1.cell? ⟨w.heap.size+1+1,7,none⟩=some (I 0):=by rw [cell_of_row _ _ _ _ _ _ hO]; rfl
 have fo7:w1.frozen? ⟨w.heap.size+1+1,7,none⟩=false:=frozen_of_row _ _ _ _ _ hO
 have p7:w1.cell? ⟨w.heap.size+1,7,none⟩=some (I 0):=by rw [cell_of_row _ _ _ _ _ _ hP]; rfl
 have fp7:w1.frozen? ⟨w.heap.size+1,7,none⟩=false:=frozen_of_row _ _ _ _ _ hP
 have o8:w1.cell? ⟨w.heap.size+1+1,8,none⟩=some (I 0):=by rw [cell_of_row _ _ _ _ _ _ hO]; rfl
 have fo8:w1.frozen? ⟨w.heap.size+1+1,8,none⟩=false:=frozen_of_row _ _ _ _ _ hO
 have p8:w1.cell? ⟨w.heap.size+1,8,none⟩=some (I 0):=by rw [cell_of_row _ _ _ _ _ _ hP]; rfl
 have fp8:w1.frozen? ⟨w.heap.size+1,8,none⟩=false:=frozen_of_row _ _ _ _ _ hP
 have o9:w1.cell? ⟨w.heap.size+1+1,9,none⟩=some (.string ⟨#[]⟩):=by rw [cell_of_row _ _ _ _ _ _ hO]; rfl
 have fo9:w1.frozen? ⟨w.heap.size+1+1,9,none⟩=false:=frozen_of_row _ _ _ _ _ hO
 have p9:w1.cell? ⟨w.heap.size+1,9,none⟩=some (.string ⟨#[]⟩):=by rw [cell_of_row _ _ _ _ _ _ hP]; rfl
 have fp9:w1.frozen? ⟨w.heap.size+1,9,none⟩=false:=frozen_of_row _ _ _ _ _ hP
 have o10:w1.cell? ⟨w.heap.size+1+1,10,none⟩=some (I 0):=by rw [cell_of_row _ _ _ _ _ _ hO]; rfl
 have fo10:w1.frozen? ⟨w.heap.size+1+1,10,none⟩=false:=frozen_of_row _ _ _ _ _ hO
 have p10:w1.cell? ⟨w.heap.size+1,10,none⟩=some (I 0):=by rw [cell_of_row _ _ _ _ _ _ hP]; rfl
 have fp10:w1.frozen? ⟨w.heap.size+1,10,none⟩=false:=frozen_of_row _ _ _ _ _ hP
 have HU:=Lib.hid hu1
 have HS1:=Lib.hid hs1
 have HR1:=Lib.hid hr1
 have HP:=Lib.hid hP
 have HO:=Lib.hid hO
 have HB:=Lib.hid hub
 clear hA hP hO hu1 hs1 hr1 hrb hr0
 go_wp2_with fail
 have kw1:=(((((Wr.start HO.out).set 6 (.slice A o.way.length c)).set 7 (.int .i64 o.gone)).set 8 (.int .i64 o.state)).set 9 (.string o.place)).set 10 (.int .i64 o.ended)
 have hP2:=(kw1.oth (w.heap.size+1) (by omega)).trans HP.out
 have kw2:=(((((((((((Wr.start hP2).set 0 (.string o.from_)).set 1 (.string o.to_)).set 2 (.int .i64 o.service)).set 3 (.int .i64 o.weight)).set 4 (.int .i64 o.at_)).set 5 (.int .i64 o.due)).set 6 (.slice A o.way.length c)).set 7 (.int .i64 o.gone)).set 8 (.int .i64 o.state)).set 9 (.string o.place)).set 10 (.int .i64 o.ended)
 have HF:=Zk3 (o:=o) hS HB.out hsz HU.out HS1.out HR1.out HO.out kw1 hP2 kw2
 have hrow:=kw2.row
 simp only [List.setIfInBounds_toArray,List.set_cons_zero,List.set_cons_succ] at hrow
 exact bodyPost_ret (v:=.agg #[.string o.from_,.string o.to_,I o.service,I o.weight,I o.at_,I o.due,.slice A o.way.length c,I o.gone,I o.state,.string o.place,I o.ended]) (results_cell_row Tryz.results166 _ _ (w.heap.size+1) 62 _ (0,0) _ rfl hrow Tryz.underlying62 rfl (by kernel_rfl)) rfl ⟨A,c,rfl,HF⟩
theorem Zml:(Tryz.prog.info? 62).map (fun i=>(i.zero,i.size,i.bytes))=some (some (Value.agg #[.string ⟨#[]⟩,.string ⟨#[]⟩,I 0,I 0,I 0,I 0,.slice none 0 0,I 0,I 0,.string ⟨#[]⟩,I 0]),11,128):=by kernel_rfl
theorem Zrp {orders:List YOrder} {S:Nat→Prop} {v:Value} {w:World} (hr:RepC w S (.sl (orders.map cOrder)) v):∃ A c,v=.slice A orders.length c∧∀ (i:Nat) (o:YOrder),orders[i]?=some o→
 ∃ b off u6,A=some ⟨b,off,none⟩∧S b∧RepC w S (.sl (o.way.map cTrip)) u6∧w.cell? ⟨b,off+i*11,none⟩=some (.string o.from_)∧w.cell? ⟨b,off+i*11+1,none⟩=some (.string o.to_)∧w.cell? ⟨b,off+i*11+2,none⟩=some (.int .i64 o.service)∧w.cell? ⟨b,off+i*11+3,none⟩=some (.int .i64 o.weight)∧w.cell? ⟨b,off+i*11+4,none⟩=some (.int .i64 o.at_)∧w.cell? ⟨b,off+i*11+5,none⟩=some (.int .i64 o.due)∧w.cell? ⟨b,off+i*11+6,none⟩=some (u6)∧w.cell? ⟨b,off+i*11+7,none⟩=some (.int .i64 o.gone)∧w.cell? ⟨b,off+i*11+8,none⟩=some (.int .i64 o.state)∧w.cell? ⟨b,off+i*11+9,none⟩=some (.string o.place)∧w.cell? ⟨b,off+i*11+10,none⟩=some (.int .i64 o.ended):=by
 generalize hq:PV.sl (orders.map cOrder)=q at hr
 cases hr with
 | v x h=>cases hq
 | ud=>cases hq
 | un=>cases hq
 | rp=>cases hq
 | fn=>cases hq
 | nil A c=>
  have h0:orders=[]:=by simpa using hq
  subst h0
  exact ⟨A,c,rfl,by simp⟩
 | sl es b off k c u hS hk hn hm hes hc h1 hrr=>
  obtain rfl:orders.map cOrder=es:=by simpa using hq
  refine ⟨_,c,by rw [List.length_map],fun i o ho=>?_⟩
  have ho':(orders.map cOrder)[i]?=some (cOrder o):=by rw [List.getElem?_map,ho]; rfl
  have hk11:k=11:=(hes i _ ho').symm
  subst hk11
  have at_:∀ (j:Nat) (p:PV),(cOrder o)[j]?=some p→w.cell? ⟨b,off+i*11+j,none⟩=some (u i j)∧RepC w S p (u i j):=fun j p hp=>⟨hc i _ j p ho' hp,hrr i _ j p ho' hp⟩
  have vi_:∀ (j:Nat) (n:Int),(cOrder o)[j]?=some (vi n)→w.cell? ⟨b,off+i*11+j,none⟩=some (.int .i64 n):=fun j n hp=>by
   obtain ⟨h2,h3⟩:=at_ j _ hp
   rw [h2]
   generalize u i j=z at h3
   cases h3; rfl
  have vs_:∀ (j:Nat) (n:ByteArray),(cOrder o)[j]?=some (vs n)→w.cell? ⟨b,off+i*11+j,none⟩=some (.string n):=fun j n hp=>by
   obtain ⟨h2,h3⟩:=at_ j _ hp
   rw [h2]
   generalize u i j=z at h3
   cases h3; rfl
  obtain ⟨h6,r6⟩:=at_ 6 _ rfl
  exact ⟨b,off,u i 6,rfl,hS,r6,vs_ 0 _ rfl,vs_ 1 _ rfl,vi_ 2 _ rfl,vi_ 3 _ rfl,vi_ 4 _ rfl,vi_ 5 _ rfl,h6,vi_ 7 _ rfl,vi_ 8 _ rfl,vs_ 9 _ rfl,vi_ 10 _ rfl⟩
def Zh3 (S:Nat→Prop) (g n:Nat) (orders:List YOrder) (i:Nat) (wr:World):Prop:=
 ∃ cs:Array Value,wr.heap[g]?=some (.cells cs 62 (0,0))∧cs.size=n*11∧∀ (j:Nat) (o:YOrder),j<i→orders[j]?=some o→∃ x,(∀ q,q<11→cs[j*11+q]?=(ordV o x)[q]?)∧(∃ A c,x=.slice A o.way.length c)∧Zak wr (g+1) 55 2 x o.way.length∧RepC wr (fun b=>S b∨(g<b∧b<wr.heap.size)) (.sl (o.way.map cTrip)) x
theorem Zh3.up {S:Nat→Prop} {g n i:Nat} {orders:List YOrder} {a b:World} (hS:∀ b,S b→b<g) (hg:g<a.heap.size) (h:Zh3 S g n orders i a) (k:Up a b):Zh3 S g n orders i b:=by
 obtain ⟨cs,h1,h2,h3⟩:=h
 refine ⟨cs,(k.block g hg).trans h1,h2,fun j o hj ho=>?_⟩
 obtain ⟨x,x1,x2,x3,x4⟩:=h3 j o hj ho
 refine ⟨x,x1,x2,x3.up k,x4.ext (fun b hb=>?_) (fun b q hb=>?_)⟩
 ·rcases hb with h | h
  ·exact .inl h
  ·exact .inr ⟨h.1,Nat.lt_of_lt_of_le h.2 k.size⟩
 ·refine k.cell (p:=⟨b,q,none⟩) ?_
  rcases hb with h | h
  ·exact Nat.lt_trans (hS b h) hg
  ·exact h.2
theorem Up.wr {g:Nat} {T:TypeId} {w w1 w2:World} {cs:Array Value} (k:Wr g T w1 w2 cs) (h:Up w w1) (hg:w.heap.size≤g):Up w w2:=
 ⟨k.os.trans h.os,k.tape.trans h.tape,k.output.trans h.output,by rw [k.size]; exact h.size,fun b hb=>(k.oth b (by omega)).trans (h.block b hb)⟩
theorem Zsc (cs:Array Value) (i:Nat) (v0 v1 v2 v3 v4 v5 v6 v7 v8 v9 v10:Value) (hi:(i+1)*11≤cs.size) (j q:Nat) (hq:q<11):
 (((((((((((cs.setIfInBounds (i*11) v0).setIfInBounds (i*11+1) v1).setIfInBounds (i*11+2) v2).setIfInBounds (i*11+3) v3).setIfInBounds (i*11+4) v4).setIfInBounds (i*11+5) v5).setIfInBounds (i*11+6) v6).setIfInBounds (i*11+7) v7).setIfInBounds (i*11+8) v8).setIfInBounds (i*11+9) v9).setIfInBounds (i*11+10) v10)[j*11+q]?=if j=i then (#[v0,v1,v2,v3,v4,v5,v6,v7,v8,v9,v10]:Array Value)[q]? else cs[j*11+q]?:=by
 simp only [Array.getElem?_setIfInBounds]
 by_cases e:j=i
 ·subst e
  simp only [Array.size_setIfInBounds]
  conv=>rhs; rw [if_pos trivial]
  have hlt:∀ p,p<11→j*11+p<cs.size:=fun p hp=>by omega
  have hlt0:j*11<cs.size:=by omega
  match q,hq with
  | 0,_=>simp [hlt,hlt0]
  | 1,_=>simp [hlt,hlt0]
  | 2,_=>simp [hlt,hlt0]
  | 3,_=>simp [hlt,hlt0]
  | 4,_=>simp [hlt,hlt0]
  | 5,_=>simp [hlt,hlt0]
  | 6,_=>simp [hlt,hlt0]
  | 7,_=>simp [hlt,hlt0]
  | 8,_=>simp [hlt,hlt0]
  | 9,_=>simp [hlt,hlt0]
  | 10,_=>simp [hlt,hlt0]
 ·conv=>rhs; rw [if_neg e]
  repeat rw [if_neg (by omega)]
theorem Zh3.step {S:Nat→Prop} {g n i:Nat} {orders:List YOrder} {w1 w2:World} {cs c2:Array Value} {o:YOrder} {x:Value} (hS:∀ b,S b→b<g) (hF:Zh3 S g n orders i w1) (ho:orders[i]?=some o) (hin:i<n)
 (hs:Zak w1 (g+1) 55 2 x o.way.length) (hf:∃ A c,x=.slice A o.way.length c) (hr:RepC w1 (fun b=>S b∨(g<b∧b<w1.heap.size)) (.sl (o.way.map cTrip)) x)
 (hrow:w1.heap[g]?=some (.cells cs 62 (0,0))) (k:Wr g 62 w1 w2 c2) (hc2:c2.size=cs.size) (hat:∀ j q,q<11→c2[j*11+q]?=if j=i then (ordV o x)[q]? else cs[j*11+q]?):Zh3 S g n orders (i+1) w2:=by
 obtain ⟨cs',h1,h2,h3⟩:=hF
 rw [hrow] at h1
 obtain rfl:cs=cs':=by simpa using h1
 have hne:∀ b,(S b∨(g<b∧b<w1.heap.size))→b≠g:=by
  rintro b (h | h)
  ·have:=hS b h; omega
  ·omega
 have hrc:∀ (p:PV) (y:Value),RepC w1 (fun b=>S b∨(g<b∧b<w1.heap.size)) p y→RepC w2 (fun b=>S b∨(g<b∧b<w2.heap.size)) p y:=fun p y h=>by
  rw [k.size]; exact h.wr k hne
 refine ⟨c2,k.row,by rw [hc2,h2],fun j o' hj ho'=>?_⟩
 by_cases e:j=i
 ·subst e
  obtain rfl:o=o':=Option.some.inj (ho.symm.trans ho')
  exact ⟨x,fun q hq=>by rw [hat j q hq,if_pos rfl],hf,hs.wr k hrow (by decide),hrc _ _ hr⟩
 ·obtain ⟨y,y1,y2,y3,y4⟩:=h3 j o' (by omega) ho'
  exact ⟨y,fun q hq=>by rw [hat j q hq,if_neg e]; exact y1 q hq,y2,y3.wr k hrow (by decide),hrc _ _ y4⟩
theorem Zh3.done {S:Nat→Prop} {orders:List YOrder} {w w':World} (hS:∀ b,S b→b<w.heap.size) (hF:Zh3 S w.heap.size orders.length orders orders.length w') (hu:Up w w') (hl:orders.length≤1048576):
 OrdS w' w.heap.size (.slice (some ⟨w.heap.size,0,none⟩) orders.length orders.length) (orders.map fun o=>o.way.length)∧RepC w' (NewS S w w') (.sl (orders.map cOrder)) (.slice (some ⟨w.heap.size,0,none⟩) orders.length orders.length):=by
 obtain ⟨cs,h1,h2,h3⟩:=hF
 have hgl:=(Array.getElem?_eq_some_iff.1 h1).1
 constructor
 ·refine .inr ⟨w.heap.size,orders.length,cs,by rw [List.length_map],Nat.le_refl _,h1,by rw [List.length_map]; omega,fun j m hj=>?_⟩
  rw [List.getElem?_map] at hj
  obtain ⟨o,ho,rfl⟩:=Option.map_eq_some_iff.1 hj
  obtain ⟨x,x1,_,x3,_⟩:=h3 j o (List.getElem?_eq_some_iff.1 ho).1 ho
  exact ⟨x,x1 6 (by omega),x3.more (by omega)⟩
 ·have key:∀ (i:Nat) (ps:List PV) (j:Nat) (p:PV),(orders.map cOrder)[i]?=some ps→ps[j]?=some p→∃ u,w'.cell? ⟨w.heap.size,0+i*11+j,none⟩=some u∧u.oneCell'=true∧RepC w' (NewS S w w') p u:=by
   intro i ps j p hi hj
   rw [List.getElem?_map] at hi
   obtain ⟨o,ho,rfl⟩:=Option.map_eq_some_iff.1 hi
   obtain ⟨x,x1,⟨A,c,hx⟩,_,x4⟩:=h3 i o (List.getElem?_eq_some_iff.1 ho).1 ho
   have hj11:j<11:=(List.getElem?_eq_some_iff.1 hj).1
   rw [Nat.zero_add,cell_of_row w' _ _ cs _ (0,0) h1,x1 j hj11]
   have r6:RepC w' (NewS S w w') (.sl (o.way.map cTrip)) x:=x4.ext (fun b hb=>by
    rcases hb with h | h
    ·exact .inl h
    ·exact .inr ⟨by omega,h.2⟩) (fun _ _ _=>rfl)
   match j,hj11,hj with
   | 0,_,hj=>obtain rfl:=Option.some.inj hj; exact ⟨_,rfl,rfl,.v _ rfl⟩
   | 1,_,hj=>obtain rfl:=Option.some.inj hj; exact ⟨_,rfl,rfl,.v _ rfl⟩
   | 2,_,hj=>obtain rfl:=Option.some.inj hj; exact ⟨_,rfl,rfl,.v _ rfl⟩
   | 3,_,hj=>obtain rfl:=Option.some.inj hj; exact ⟨_,rfl,rfl,.v _ rfl⟩
   | 4,_,hj=>obtain rfl:=Option.some.inj hj; exact ⟨_,rfl,rfl,.v _ rfl⟩
   | 5,_,hj=>obtain rfl:=Option.some.inj hj; exact ⟨_,rfl,rfl,.v _ rfl⟩
   | 6,_,hj=>obtain rfl:=Option.some.inj hj; exact ⟨_,rfl,by rw [hx]; rfl,r6⟩
   | 7,_,hj=>obtain rfl:=Option.some.inj hj; exact ⟨_,rfl,rfl,.v _ rfl⟩
   | 8,_,hj=>obtain rfl:=Option.some.inj hj; exact ⟨_,rfl,rfl,.v _ rfl⟩
   | 9,_,hj=>obtain rfl:=Option.some.inj hj; exact ⟨_,rfl,rfl,.v _ rfl⟩
   | 10,_,hj=>obtain rfl:=Option.some.inj hj; exact ⟨_,rfl,rfl,.v _ rfl⟩
  have h:=RepC.sl (w:=w') (S:=NewS S w w') (orders.map cOrder) w.heap.size 0 11 orders.length (fun i j=>(w'.cell? ⟨w.heap.size,0+i*11+j,none⟩).getD .nilIface) (.inr ⟨Nat.le_refl _,hgl⟩) (by decide) (by simp) (by unfold maxLen; omega)
   (fun i ps hi=>by rw [List.getElem?_map] at hi; obtain ⟨o,_,rfl⟩:=Option.map_eq_some_iff.1 hi; rfl)
   (fun i ps j p hi hj=>by obtain ⟨u,u1,_⟩:=key i ps j p hi hj; rw [u1]; rfl)
   (fun i ps j p hi hj=>by obtain ⟨u,u1,u2,_⟩:=key i ps j p hi hj; rw [u1]; exact u2)
   (fun i ps j p hi hj=>by obtain ⟨u,u1,_,u3⟩:=key i ps j p hi hj; rw [u1]; exact u3)
  simpa only [List.length_map] using h
set_option maxHeartbeats 1000000 in
set_option maxRecDepth 100000 in
theorem ZmI (orders:List YOrder) (hl:orders.length≤1048576) (hway:∀ o∈orders,o.way.length≤1048576) {S:Nat→Prop} {v:Value} {w:World} (hS:∀ b,S b→b<w.heap.size) (hr:RepC w S (.sl (orders.map cOrder)) v):
 Calls Tryz.prog 75 #[v] w fun e w'=>∃ v',e=.returned v'∧Up w w'∧OrdS w' w.heap.size v' (orders.map fun o=>o.way.length)∧RepC w' (NewS S w w') (.sl (orders.map cOrder)) v':=by
 obtain ⟨A,c,rfl,harg⟩:=Zrp hr
 obtain ⟨i0,hi0,hz0,hz1,hz2⟩:=info_parts Zml
 have hmk:=ZpZ (P:=Tryz.prog) 36 62 i0 _ Tryz.underlying36 hi0 hz0 orders.length (by rw [hz2]; omega) (by omega)
 rw [hz1] at hmk
 clear hi0 hz0 hz1 hz2 hr
 go_enter Tryz.func75,Tryz.ntmps75
 go_wp2
 go_loopw [4] (fun i wr=>∃ j:Nat,j≤orders.length∧i=.int .i64 j∧Zh3 S w.heap.size orders.length orders j wr∧Up w wr) (fun i _=>orders.length-(intOf i).toNat)
 case atStart=>exact ⟨0,by omega,rfl,⟨_,heap_alloc_new w _,by simp [madeCells],fun j o hj=>absurd hj (Nat.not_lt_zero j)⟩,by (repeat (first | exact Up.rfl' _ | (refine Up.al _ ?_) | (refine Up.dr _ ?_) | (refine Up.dr1 ?_) | (refine Up.sc ?_ (by first | exact Nat.le_refl _ | (simp; done) | omega) _) | (refine Up.step (by assumption) ?_)))⟩
 case round=>
  obtain ⟨i,hi,rfl,hF,hb⟩:=hrel
  clear hmk
  by_cases hlt:i<orders.length
  ·obtain ⟨o,ho⟩:=Zhr hlt
   obtain ⟨b,off,u6,rfl,hSb,hr6,c0,c1,c2,c3,c4,c5,c6,c7,c8,c9,c10⟩:=harg i o ho
   have hbw:=hS b hSb
   have up_:∀ {q:Nat} {x:Value},w.cell? ⟨b,q,none⟩=some x→wr.cell? ⟨b,q,none⟩=some x:=fun h=>(hb.cell (p:=⟨b,_,none⟩) hbw).trans h
   replace c0:=up_ c0; replace c1:=up_ c1; replace c2:=up_ c2; replace c3:=up_ c3; replace c4:=up_ c4; replace c5:=up_ c5; replace c6:=up_ c6; replace c7:=up_ c7; replace c8:=up_ c8; replace c9:=up_ c9; replace c10:=up_ c10
   obtain ⟨A6',c6',hu6⟩:=Zs hr6
   rw [List.length_map] at hu6
   subst hu6
   have hgl:w.heap.size<wr.heap.size:=by obtain ⟨cs,h1,_⟩:=hF; exact (Array.getElem?_eq_some_iff.1 h1).1
   have hr6':RepC wr S (.sl (o.way.map cTrip)) _:=hr6.ext (fun _ h=>h) (fun b q h=>hb.cell (p:=⟨b,q,none⟩) (hS b h))
   have HF:=Lib.hid hF
   have HR6:=Lib.hid hr6'
   have HA:=Lib.hid harg
   have HO:=Lib.hid ho
   clear hr6 hr6' hF harg ho up_
   go_wp2_with fail
   refine (Zor o (hway o (List.mem_of_getElem? HO.out)) (S:=S) (fun b h=>Nat.lt_trans (hS b h) hgl) HR6.out).mono ?_
   rintro e w1 ⟨A6,c6,rfl,hu1,hs1,hr1⟩
   have hF1:=HF.out.up hS hgl hu1
   obtain ⟨cs,hrow,hcs,_⟩:=id hF1
   have hR:RowA w1 w.heap.size (orders.length*11) 62:=⟨cs,hrow,by omega⟩
   obtain ⟨⟨z0,d0⟩,f0⟩:=hR.cell (j:=i*11) (by omega)
   obtain ⟨⟨z1,d1⟩,f1⟩:=hR.cell (j:=i*11+1) (by omega)
   obtain ⟨⟨z2,d2⟩,f2⟩:=hR.cell (j:=i*11+2) (by omega)
   obtain ⟨⟨z3,d3⟩,f3⟩:=hR.cell (j:=i*11+3) (by omega)
   obtain ⟨⟨z4,d4⟩,f4⟩:=hR.cell (j:=i*11+4) (by omega)
   obtain ⟨⟨z5,d5⟩,f5⟩:=hR.cell (j:=i*11+5) (by omega)
   obtain ⟨⟨z6,d6⟩,f6⟩:=hR.cell (j:=i*11+6) (by omega)
   obtain ⟨⟨z7,d7⟩,f7⟩:=hR.cell (j:=i*11+7) (by omega)
   obtain ⟨⟨z8,d8⟩,f8⟩:=hR.cell (j:=i*11+8) (by omega)
   obtain ⟨⟨z9,d9⟩,f9⟩:=hR.cell (j:=i*11+9) (by omega)
   obtain ⟨⟨z10,d10⟩,f10⟩:=hR.cell (j:=i*11+10) (by omega)
   have HROW:=Lib.hid hrow
   have HF1:=Lib.hid hF1
   have HS1:=Lib.hid hs1
   have HR1:=Lib.hid hr1
   have hb1:Up w w1:=Up.step hu1 hb
   have s1:=hu1.size
   clear hrow hF1 hs1 hr1 HF HR6 hR
   go_wp2_with fail
   have hrow:=HROW.out
   have kw:=(((((((((((Wr.start hrow).set (i*11) (.string o.from_)).set (i*11+1) (.string o.to_)).set (i*11+2) (.int .i64 o.service)).set (i*11+3) (.int .i64 o.weight)).set (i*11+4) (.int .i64 o.at_)).set (i*11+5) (.int .i64 o.due)).set (i*11+6) (.slice A6 o.way.length c6)).set (i*11+7) (.int .i64 o.gone)).set (i*11+8) (.int .i64 o.state)).set (i*11+9) (.string o.place)).set (i*11+10) (.int .i64 o.ended)
   refine ⟨⟨i+1,by omega,by go_num,?_,?_⟩,by simp [intOf]; omega⟩
   ·refine Zh3.step hS HF1.out HO.out hlt (HS1.out.more (by omega)) ⟨A6,c6,rfl⟩ (HR1.out.ext (fun b hb=>?_) (fun _ _ _=>rfl)) hrow kw (by simp only [Array.size_setIfInBounds]) (fun j q hq=>?_)
    ·rcases hb with h | h
     ·exact .inl h
     ·exact .inr ⟨by omega,h.2⟩
    ·have h_:=Zsc cs i (.string o.from_) (.string o.to_) (I o.service) (I o.weight) (I o.at_) (I o.due) (.slice A6 o.way.length c6) (I o.gone) (I o.state) (.string o.place) (I o.ended) (by omega) j q hq
     exact h_
   ·exact Up.wr kw hb1 (Nat.le_refl _)
  ·go_wp2_with fail
   go_ret
   obtain rfl:i=orders.length:=by omega
   obtain ⟨h1,h2⟩:=hF.done hS hb hl
   exact ⟨_,rfl,hb,h1,h2⟩
end Go.Proofs.YtmcdjilbkmhfoaaGreat
