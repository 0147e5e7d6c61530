/- A part of the proof of the statement in the last file of this claim: texts on the language of the program and on its functions. No condition. -/
import Derived.Test.YtkfbakhnpfmfmaaGreatDoorCFnActRead4
import Derived.Test.YtkfbakhnpfmfmaaGreatDoorCFnActRead5
import Derived.Test.YtkfbakhnpfmfmaaGreatDoorCFnActRead6
import Derived.Test.YtkfbakhnpfmfmaaGreatDoorCFnActRead7
import Derived.Laws.ResultCell
set_option linter.unusedVariables false
set_option linter.unusedSimpArgs false
set_option linter.unusedSectionVars false
namespace Go.Proofs.YtkfbakhnpfmfmaaGreatDoor
set_option maxRecDepth 10000
open Go.RowKit
set_option linter.unusedVariables false
set_option maxHeartbeats 16000000
def Zco (digits:Int) (s0:ByteArray):Option (ByteArray ⊕ ByteArray):=
 cond (decide ((s0.size:Int)<digits))
 ((chk (ZaK (⟨#[48]⟩) s0)).bind fun _=>
 some (.inl (⟨#[48]⟩++s0)))
 (some (.inr s0))
instance (digits:Int):Z1 (Zco digits):=⟨fun s0=>(.un::vi digits::(U 3 (vs s0::(U 9 [])))),fun s0=>[]⟩
def ZcR (n:Int) (digits:Int):Option ByteArray:=
 (Zs n).bind fun y1=>
 (Zj (Zco digits) NN y1).bind (fun o0=>
 some o0)
instance (n:Int) (digits:Int):CT Tryz.prog (ZcR n digits):=⟨90,[vi n,vi digits],[],fun r=>vs r,fun r=>[],fun H=>by replace H:=H0 H; unfold ZcR at H; exact Zd Tryz.func90 rfl Tryz.ntmps90 Tryz.results90 fun Q hQ hQn=>wk3⟩
def Zdi (s:ByteArray) (s0:ByteArray × Int):Option ((ByteArray × Int) ⊕ (ByteArray ⊕ (ByteArray × Bool))):=
 cond (decide (s0.2<(s.size:Int)))
 ((jn 5 4 (
 (getB s s0.2).bind fun y1=>
 (Zl (IntKind.i64.wrap y1) 48 57).bind fun y2=>
 cond y2
 ((chk (slOk s0.2 (w64 (s0.2+1)) s.size)).bind fun _=>
 (chk (ZaK s0.1 (subS s s0.2 (w64 (s0.2+1))))).bind fun _=>
 some (.inl (s0.1++(subS s s0.2 (w64 (s0.2+1))))))
 ((Zl (IntKind.i64.wrap y1) 65 90).bind fun y3=>
 cond y3
 ((Zs (w64 ((w64 ((IntKind.i64.wrap y1)-65))+10))).bind fun y4=>
 (chk (ZaK s0.1 y4)).bind fun _=>
 some (.inl (s0.1++y4)))
 (some (.inr (⟨#[]⟩,false)))):Option (ByteArray ⊕ (ByteArray × Bool))) (fun z5=>(vs s::(U 3 (vs z5::vi s0.2::(U 31 []))))) (fun z5=>[])).bind (Zu (fun z5=>
 some (.inl (z5,(w64 (s0.2+1))))) (fun r=>some (.inr (.inr r)))))
 (some (.inr (.inl s0.1)))
instance (s:ByteArray):Z1 (Zdi s):=⟨fun s0=>(vs s::(U 3 (vs s0.1::vi s0.2::(U 31 [])))),fun s0=>[]⟩
def ZeC (s:ByteArray):Option (ByteArray × Bool):=
 (Zj (Zdi s) NN (⟨#[]⟩,0)).bind (Zu (fun o0=>
 some (o0,true)) (fun r=>some r))
instance (s:ByteArray):CT Tryz.prog (ZeC s):=⟨125,[vs s],[],fun r=>.tu [vs r.1,vb r.2],fun r=>[],fun H=>by replace H:=H0 H; unfold ZeC at H; exact Zd Tryz.func125 rfl Tryz.ntmps125 Tryz.results125 fun Q hQ hQn=>wk3⟩
def Zag (s:ByteArray) (s0:Int × Int):Option ((Int × Int) ⊕ (Int ⊕ Int)):=
 cond (decide (s0.2<(s.size:Int)))
 ((getB s s0.2).bind fun y1=>
 (Zl (IntKind.i64.wrap y1) 48 57).bind fun y2=>
 cond (!y2)
 (some (.inr (.inr (-1))))
 ((getB s s0.2).bind fun y3=>
 some (.inl ((Int.tmod (w64 ((w64 (10*s0.1))+(IntKind.i64.wrap (IntKind.u8.wrap (y3-48))))) 97),(w64 (s0.2+1))))))
 (some (.inr (.inl s0.1)))
instance (s:ByteArray):Z1 (Zag s):=⟨fun s0=>(vs s::.un::.un::vi s0.1::vi s0.2::(U 24 [])),fun s0=>[]⟩
def Zcj (s:ByteArray):Option Int:=
 (Zj (Zag s) NN (0,0)).bind (Zu (fun o0=>
 cond (decide (s=⟨#[]⟩))
 (some (-1))
 (some o0)) (fun r=>some r))
instance (s:ByteArray):CT Tryz.prog (Zcj s):=⟨126,[vs s],[],fun r=>vi r,fun r=>[],fun H=>by replace H:=H0 H; unfold Zcj at H; exact Zd Tryz.func126 rfl Tryz.ntmps126 Tryz.results126 fun Q hQ hQn=>wk3⟩
def ZeB (s:ByteArray) (s0:Int × Int):Option ((Int × Int) ⊕ (Int ⊕ Int)):=
 cond (decide (s0.2<(s.size:Int)))
 ((getB s s0.2).bind fun y1=>
 cond (decide (y1<48))
 (some (.inr (.inr (-1))))
 ((getB s s0.2).bind fun y2=>
 cond (decide (57<y2))
 (some (.inr (.inr (-1))))
 ((getB s s0.2).bind fun y3=>
 some (.inl ((Int.tmod (w64 ((w64 (10*s0.1))+(IntKind.i64.wrap (IntKind.u8.wrap (y3-48))))) 97),(w64 (s0.2+1)))))))
 (some (.inr (.inl s0.1)))
instance (s:ByteArray):Z1 (ZeB s):=⟨fun s0=>(vs s::.un::.un::vi s0.1::vi s0.2::(U 28 [])),fun s0=>[]⟩
def Ze2 (s:ByteArray):Option Int:=
 (Zj (ZeB s) NN (0,0)).bind (Zu (fun o0=>
 cond (decide (s=⟨#[]⟩))
 (some (-1))
 (some o0)) (fun r=>some r))
instance (s:ByteArray):CT Tryz.prog (Ze2 s):=⟨121,[vs s],[],fun r=>vi r,fun r=>[],fun H=>by replace H:=H0 H; unfold Ze2 at H; exact Zd Tryz.func121 rfl Tryz.ntmps121 Tryz.results121 fun Q hQ hQn=>wk3⟩
def ZdR (l:Zw):Option ByteArray:=
 (ZI l.service).bind fun y1=>
 (Zc4 l.serial 9).bind fun y2=>
 (chk (ZaK y1 y2)).bind fun _=>
 (chk (ZaK (y1++y2) l.to_)).bind fun _=>
 some ((y1++y2)++l.to_)
instance (l:Zw):CT Tryz.prog (ZdR l):=⟨83,[.ag (Zd7 l)],[],fun r=>vs r,fun r=>[],fun H=>by replace H:=H0 H; unfold ZdR at H; exact Zd Tryz.func83 rfl Tryz.ntmps83 Tryz.results83 fun Q hQ hQn=>wk3⟩
def Zd9 (l:Zw):Option Int:=
 (Zbe l).bind fun y1=>
 cond (!y1)
 (some (-1))
 ((ZdR l).bind fun y2=>
 (ZdQ y2).bind fun y3=>
 (chk (ZaK y3.1 (⟨#[48,48]⟩))).bind fun _=>
 (Ze2 (y3.1++⟨#[48,48]⟩)).bind fun y4=>
 some (w64 (98-y4)))
instance (l:Zw):CT Tryz.prog (Zd9 l):=⟨85,[.ag (Zd7 l)],[],fun r=>vi r,fun r=>[],fun H=>by replace H:=H0 H; unfold Zd9 at H; exact Zd Tryz.func85 rfl Tryz.ntmps85 Tryz.results85 fun Q hQ hQn=>wk3⟩
def ZM (l:Zw):Option ByteArray:=
 (Zbe l).bind fun y1=>
 cond (!y1)
 (some (⟨#[]⟩))
 ((ZdR l).bind fun y2=>
 (Zd9 l).bind fun y3=>
 (Zc4 y3 2).bind fun y4=>
 (chk (ZaK y2 y4)).bind fun _=>
 some (y2++y4))
instance (l:Zw):CT Tryz.prog (ZM l):=⟨60,[.ag (Zd7 l)],[],fun r=>vs r,fun r=>[],fun H=>by replace H:=H0 H; unfold ZM at H; exact Zd Tryz.func60 rfl Tryz.ntmps60 Tryz.results60 fun Q hQ hQn=>wk3⟩
set_option linter.unusedSimpArgs false
set_option maxHeartbeats 2000000
def Zhn:Zw:=⟨0,0,⟨#[]⟩⟩
def ZaR (s:ByteArray):Option (Zw × Bool):=
 if s.size≤100000000 then if s.size=15 then match Lib.atoiAll (s.extract 0 1).data.toList,Lib.atoiAll (s.extract 1 10).data.toList with
  | .ok a,.ok b=>(ZM ⟨a,b,s.extract 10 13⟩).bind fun t=>some (if t=s then (⟨a,b,s.extract 10 13⟩,true) else (Zhn,false))
  | _,_=>some (Zhn,false)
 else some (Zhn,false) else none
theorem Zwg {w:World} (a b:Int) (t:ByteArray):∀ (i:Nat) (p:PV),[PV.ag (Zd7 ⟨a,b,t⟩)][i]?=some p→∃ x,(#[.agg #[.int .i64 a,.int .i64 b,.string t]]:Array Value)[i]?=some x∧Rep w (E1 (fun b=>b<w.heap.size) (fun _=>none) 0) p x:=by
 intro i p hp
 match i,hp with
 | 0,hp=>
  obtain rfl:=Option.some.inj hp
  refine ⟨_,rfl,.ag _ _ rfl (fun j x hx3=>?_) fun j p x hp hx3=>?_⟩
  ·match j,hx3 with
   | 0,h | 1,h | 2,h=>obtain rfl:=Option.some.inj h; rfl
   | j+3,h=>simp at h
  ·match j,hp,hx3 with
   | 0,hp,hx2 | 1,hp,hx2 | 2,hp,hx2=>obtain rfl:=Option.some.inj hx2; obtain rfl:=Option.some.inj hp; exact .c (.v _ rfl)
   | j+3,hp,_=>simp [Zd7] at hp
 | n+1,hp=>simp at hp
theorem Zkb {a b:Int} {t z:ByteArray} (h:ZM ⟨a,b,t⟩=some z) (w:World) (ht:TabF w):Calls Tryz.prog 60 #[.agg #[.int .i64 a,.int .i64 b,.string t]] w fun e w'=>e=.returned (.string z)∧Up w w':=by
 have c:=CT.ok (P:=Tryz.prog) h
 simp only [CT.f,CT.args,CT.m0,CT.res,CT.mem] at c
 exact Zd1.val c (tab_of_F ht) rfl (Zwg a b t)
def Bx (b:Nat) (w:World) (x y z:Value):Prop:=w.heap[b]?=some (.cells #[x,y,z] 23)
theorem Bx.c {b:Nat} {w:World} {x y z:Value} (h:Bx b w x y z):w.cell? ⟨b,0,none⟩=some x∧w.cell? ⟨b,1,none⟩=some y∧w.cell? ⟨b,2,none⟩=some z∧w.frozen? ⟨b,0,none⟩=false∧w.frozen? ⟨b,1,none⟩=false∧w.frozen? ⟨b,2,none⟩=false:=by
 unfold Bx at h
 simp [World.cell?,World.frozen?,h]
theorem Bx.up {b:Nat} {w w':World} {x y z:Value} (h:Bx b w x y z) (hu:Up w w'):Bx b w' x y z:=(hu.block b (Array.getElem?_eq_some_iff.1 h).1).trans h
theorem Bx.new (w:World) (x y z:Value):Bx w.heap.size (w.alloc (.cells #[x,y,z] 23)) x y z:=Array.getElem?_push_size
theorem Bx.old {b:Nat} {w:World} {x y z:Value} (h:Bx b w x y z) (o:Obj):Bx b (w.alloc o) x y z:=by
 have hb:=(Array.getElem?_eq_some_iff.1 h).1
 unfold Bx at *
 rw [← h]; exact Array.getElem?_push_lt hb |>.trans (Array.getElem?_eq_getElem hb).symm
theorem Bx.lt {b:Nat} {w:World} {x y z:Value} (h:Bx b w x y z):b<w.heap.size:=(Array.getElem?_eq_some_iff.1 h).1
theorem Zki (s:ByteArray) (w:World) (hs:¬ s.size=15) (hm:s.size≤100000000):Calls Tryz.prog 51 #[.string s] w fun e w'=>e=.returned (.tuple #[.agg #[.int .i64 0,.int .i64 0,.string ⟨#[]⟩],.bool false])∧Up w w':=by
 have hs1:¬ (s.size:Int)=15:=by omega
 go_enter Tryz.func51,Tryz.ntmps51
 go_wp2
 (try simp only [Exit.inBlock,Exit.then])
 refine bodyPost_ret (v:=.tuple #[.agg #[.int .i64 0,.int .i64 0,.string ⟨#[]⟩],.bool false]) ?_ rfl ?_
 ·rw [results_cell_tmp rfl]
  go_simp
 ·exact ⟨rfl,by (repeat (first | exact Up.rfl' _ | (refine Up.al _ ?_) | (refine Up.dr _ ?_) | (refine Up.dr1 ?_) | (refine Up.sc ?_ (by first | exact Nat.le_refl _ | (simp; done) | omega) _) | (refine Up.step (by assumption) ?_)))⟩
theorem Zjn {s:ByteArray} {i j:Nat} (hs:s.size=15):(s.extract i j).size≤15:=by rw [ByteArray.size_extract]; omega
theorem ZjO (s:ByteArray) (w:World) (ht:TabF w) (hs:s.size=15) (h1:∀ v,Lib.atoiAll (s.extract 0 1).data.toList≠.ok v):Calls Tryz.prog 51 #[.string s] w fun e w'=>e=.returned (.tuple #[.agg #[.int .i64 0,.int .i64 0,.string ⟨#[]⟩],.bool false])∧Up w w':=by
 have hz:=Zjn (i:=0) (j:=1) hs
 have hz2:=Zjn (i:=1) (j:=10) hs
 have hA:=fun w1 (hu:Up w w1)=>ZiV (s.extract 0 1) (by omega) h1 w1 (Zj3 ht hu)
 have hs1:(s.size:Int)=15:=by omega
 by_cases h2:∃ v,Lib.atoiAll (s.extract 1 10).data.toList=.ok v
 ·obtain ⟨v,h2⟩:=h2
  have hB:=fun w1=>Zgk (s.extract 1 10) (by omega) h2 w1
  clear h1 h2 hz hz2
  go_enter Tryz.func51,Tryz.ntmps51
  go_wp2_with (first
   | (go_at_call 52; with_reducible (refine (hA _ (by (repeat (first | exact Up.rfl' _ | (refine Up.al _ ?_) | (refine Up.dr _ ?_) | (refine Up.dr1 ?_) | (refine Up.sc ?_ (by first | exact Nat.le_refl _ | (simp; done) | omega) _) | (refine Up.step (by assumption) ?_))))).mono ?_); rintro e w1 ⟨n,t,p,rfl,hu1⟩; have B1:=(Bx.new w _ _ _).up hu1)
   | (go_at_call 52; with_reducible (refine (hB _).mono ?_); rintro e w2 ⟨rfl,hu2⟩; have B2:=B1.up hu2; obtain ⟨d0,d1,d2,e0,e1,e2⟩:=B2.c; have z1:=B2.lt; have z2:=Nat.ne_of_lt z1))
  (try simp only [Exit.inBlock,Exit.then])
  refine bodyPost_ret (v:=.tuple #[.agg #[.int .i64 0,.int .i64 0,.string ⟨#[]⟩],.bool false]) ?_ rfl ?_
  ·rw [results_cell_tmp rfl]
   go_simp
  ·exact ⟨rfl,by (repeat (first | exact Up.rfl' _ | (refine Up.al _ ?_) | (refine Up.dr _ ?_) | (refine Up.dr1 ?_) | (refine Up.sc ?_ (by first | exact Nat.le_refl _ | (simp; done) | omega) _) | (refine Up.step (by assumption) ?_)))⟩
 ·have hB:=fun w1 (hu:Up w w1)=>ZiV (s.extract 1 10) (by omega) (fun v e=>h2 ⟨v,e⟩) w1 (Zj3 ht hu)
  clear h1 h2 hz hz2
  go_enter Tryz.func51,Tryz.ntmps51
  go_wp2_with (first
   | (go_at_call 52; with_reducible (refine (hA _ (by (repeat (first | exact Up.rfl' _ | (refine Up.al _ ?_) | (refine Up.dr _ ?_) | (refine Up.dr1 ?_) | (refine Up.sc ?_ (by first | exact Nat.le_refl _ | (simp; done) | omega) _) | (refine Up.step (by assumption) ?_))))).mono ?_); rintro e w1 ⟨n,t,p,rfl,hu1⟩; have B1:=(Bx.new w _ _ _).up hu1)
   | (go_at_call 52; with_reducible (refine (hB _ (by (repeat (first | exact Up.rfl' _ | (refine Up.al _ ?_) | (refine Up.dr _ ?_) | (refine Up.dr1 ?_) | (refine Up.sc ?_ (by first | exact Nat.le_refl _ | (simp; done) | omega) _) | (refine Up.step (by assumption) ?_))))).mono ?_); rintro e w2 ⟨n2,t2,p2,rfl,hu2⟩; have B2:=B1.up hu2; obtain ⟨d0,d1,d2,e0,e1,e2⟩:=B2.c; have z1:=B2.lt; have z2:=Nat.ne_of_lt z1))
  (try simp only [Exit.inBlock,Exit.then])
  refine bodyPost_ret (v:=.tuple #[.agg #[.int .i64 0,.int .i64 0,.string ⟨#[]⟩],.bool false]) ?_ rfl ?_
  ·rw [results_cell_tmp rfl]
   go_simp
  ·exact ⟨rfl,by (repeat (first | exact Up.rfl' _ | (refine Up.al _ ?_) | (refine Up.dr _ ?_) | (refine Up.dr1 ?_) | (refine Up.sc ?_ (by first | exact Nat.le_refl _ | (simp; done) | omega) _) | (refine Up.step (by assumption) ?_)))⟩
theorem ZjP (s:ByteArray) (w:World) (ht:TabF w) (hs:s.size=15) {a:Int} (h1:Lib.atoiAll (s.extract 0 1).data.toList=.ok a) (h2:∀ v,Lib.atoiAll (s.extract 1 10).data.toList≠.ok v):Calls Tryz.prog 51 #[.string s] w fun e w'=>e=.returned (.tuple #[.agg #[.int .i64 0,.int .i64 0,.string ⟨#[]⟩],.bool false])∧Up w w':=by
 have hz:=Zjn (i:=0) (j:=1) hs
 have hz2:=Zjn (i:=1) (j:=10) hs
 have hA:=fun w1=>Zgk (s.extract 0 1) (by omega) h1 w1
 have hB:=fun w1 (hu:Up w w1)=>ZiV (s.extract 1 10) (by omega) h2 w1 (Zj3 ht hu)
 have hs1:(s.size:Int)=15:=by omega
 clear h1 h2 hz hz2
 go_enter Tryz.func51,Tryz.ntmps51
 go_wp2_with (first
  | (go_at_call 52; with_reducible (refine (hA _).mono ?_); rintro e w1 ⟨rfl,hu1⟩; have B1:=(Bx.new w _ _ _).up hu1)
  | (go_at_call 52; with_reducible (refine (hB _ (by (repeat (first | exact Up.rfl' _ | (refine Up.al _ ?_) | (refine Up.dr _ ?_) | (refine Up.dr1 ?_) | (refine Up.sc ?_ (by first | exact Nat.le_refl _ | (simp; done) | omega) _) | (refine Up.step (by assumption) ?_))))).mono ?_); rintro e w2 ⟨n2,t2,p2,rfl,hu2⟩; have B2:=B1.up hu2; obtain ⟨d0,d1,d2,e0,e1,e2⟩:=B2.c; have z1:=B2.lt; have z2:=Nat.ne_of_lt z1))
 (try simp only [Exit.inBlock,Exit.then])
 refine bodyPost_ret (v:=.tuple #[.agg #[.int .i64 0,.int .i64 0,.string ⟨#[]⟩],.bool false]) ?_ rfl ?_
 ·rw [results_cell_tmp rfl]
  go_simp
 ·exact ⟨rfl,by (repeat (first | exact Up.rfl' _ | (refine Up.al _ ?_) | (refine Up.dr _ ?_) | (refine Up.dr1 ?_) | (refine Up.sc ?_ (by first | exact Nat.le_refl _ | (simp; done) | omega) _) | (refine Up.step (by assumption) ?_)))⟩
theorem Zkh (s:ByteArray) (w:World) (ht:TabF w) (hs:s.size=15) {a b:Int} (h1:Lib.atoiAll (s.extract 0 1).data.toList=.ok a) (h2:Lib.atoiAll (s.extract 1 10).data.toList=.ok b) {t:ByteArray} (hF:ZM ⟨a,b,s.extract 10 13⟩=some t):Calls Tryz.prog 51 #[.string s] w fun e w'=>e=.returned (if t=s then .tuple #[.agg #[.int .i64 a,.int .i64 b,.string (s.extract 10 13)],.bool true] else .tuple #[.agg #[.int .i64 0,.int .i64 0,.string ⟨#[]⟩],.bool false])∧Up w w':=by
 have hz:=Zjn (i:=0) (j:=1) hs
 have hz2:=Zjn (i:=1) (j:=10) hs
 have hA:=fun w1=>Zgk (s.extract 0 1) (by omega) h1 w1
 have hB:=fun w1=>Zgk (s.extract 1 10) (by omega) h2 w1
 have hC:=fun w1 (hu:Up w w1)=>Zkb hF w1 (Zj3 ht hu)
 have hs1:(s.size:Int)=15:=by omega
 clear hF h1 h2 hz hz2
 by_cases ce:t=s
 ·rw [if_pos ce]
  rw [ce] at hC
  clear ce
  go_enter Tryz.func51,Tryz.ntmps51
  go_wp2_with (first
   | (go_at_call 52; with_reducible (refine (hA _).mono ?_); rintro e w1 ⟨rfl,hu1⟩; have B1:=(Bx.new w _ _ _).up hu1)
   | (go_at_call 52; with_reducible (refine (hB _).mono ?_); rintro e w2 ⟨rfl,hu2⟩; have B2:=B1.up hu2; obtain ⟨d0,d1,d2,e0,e1,e2⟩:=B2.c; have z1:=B2.lt; have z2:=Nat.ne_of_lt z1)
   | (go_at_call 60; with_reducible (refine (hC _ (by (repeat (first | exact Up.rfl' _ | (refine Up.al _ ?_) | (refine Up.dr _ ?_) | (refine Up.dr1 ?_) | (refine Up.sc ?_ (by first | exact Nat.le_refl _ | (simp; done) | omega) _) | (refine Up.step (by assumption) ?_))))).mono ?_); rintro e w3 ⟨rfl,hu3⟩; have B3:=(B2.old _).up hu3; obtain ⟨d0,d1,d2,e0,e1,e2⟩:=B3.c; have B4:=(Bx.new w2 _ _ _).up hu3; obtain ⟨g0,g1,g2,-,-,-⟩:=B4.c))
  (try simp only [Exit.inBlock,Exit.then])
  refine bodyPost_ret (v:=.tuple #[.agg #[.int .i64 a,.int .i64 b,.string (s.extract 10 13)],.bool true]) ?_ rfl ?_
  ·rw [results_cell_tmp rfl]
   go_simp
  ·exact ⟨rfl,by (repeat (first | exact Up.rfl' _ | (refine Up.al _ ?_) | (refine Up.dr _ ?_) | (refine Up.dr1 ?_) | (refine Up.sc ?_ (by first | exact Nat.le_refl _ | (simp; done) | omega) _) | (refine Up.step (by assumption) ?_)))⟩
 ·rw [if_neg ce]
  have hq:=Zt4 ce
  clear ce
  go_enter Tryz.func51,Tryz.ntmps51
  go_wp2_with (first
   | (go_at_call 52; with_reducible (refine (hA _).mono ?_); rintro e w1 ⟨rfl,hu1⟩; have B1:=(Bx.new w _ _ _).up hu1)
   | (go_at_call 52; with_reducible (refine (hB _).mono ?_); rintro e w2 ⟨rfl,hu2⟩; have B2:=B1.up hu2; obtain ⟨d0,d1,d2,e0,e1,e2⟩:=B2.c; have z1:=B2.lt; have z2:=Nat.ne_of_lt z1)
   | (go_at_call 60; with_reducible (refine (hC _ (by (repeat (first | exact Up.rfl' _ | (refine Up.al _ ?_) | (refine Up.dr _ ?_) | (refine Up.dr1 ?_) | (refine Up.sc ?_ (by first | exact Nat.le_refl _ | (simp; done) | omega) _) | (refine Up.step (by assumption) ?_))))).mono ?_); rintro e w3 ⟨rfl,hu3⟩; have B3:=(B2.old _).up hu3; obtain ⟨d0,d1,d2,e0,e1,e2⟩:=B3.c; have B4:=(Bx.new w2 _ _ _).up hu3; obtain ⟨g0,g1,g2,-,-,-⟩:=B4.c))
  (try simp only [Exit.inBlock,Exit.then])
  refine bodyPost_ret (v:=.tuple #[.agg #[.int .i64 0,.int .i64 0,.string ⟨#[]⟩],.bool false]) ?_ rfl ?_
  ·rw [results_cell_tmp rfl]
   go_simp
  ·exact ⟨rfl,by (repeat (first | exact Up.rfl' _ | (refine Up.al _ ?_) | (refine Up.dr _ ?_) | (refine Up.dr1 ?_) | (refine Up.sc ?_ (by first | exact Nat.le_refl _ | (simp; done) | omega) _) | (refine Up.step (by assumption) ?_)))⟩
theorem labV {w:World} {E:Env} (r:Zw × Bool):Rep w E (.tu [.ag (Zd7 r.1),vb r.2]) (.tuple #[.agg #[.int .i64 r.1.service,.int .i64 r.1.serial,.string r.1.to_],.bool r.2]):=by
 refine .tu _ _ rfl fun j p x hp hx=>?_
 match j,hp,hx with
 | 0,hp,hx=>
  obtain rfl:=Option.some.inj hp
  obtain rfl:=Option.some.inj hx
  refine .ag _ _ rfl (fun j x hx3=>?_) fun j p x hp hx3=>?_
  ·match j,hx3 with
   | 0,h | 1,h | 2,h=>obtain rfl:=Option.some.inj h; rfl
   | j+3,h=>simp at h
  ·match j,hp,hx3 with
   | 0,hp,hx2 | 1,hp,hx2 | 2,hp,hx2=>obtain rfl:=Option.some.inj hx2; obtain rfl:=Option.some.inj hp; exact .c (.v _ rfl)
   | j+3,hp,_=>simp [Zd7] at hp
 | 1,hp,hx=>
  obtain rfl:=Option.some.inj hp
  obtain rfl:=Option.some.inj hx
  exact .c (.v _ rfl)
 | j+2,hp,hx=>simp at hx
theorem ZhM (s:ByteArray) {r:Zw × Bool} (H:ZaR s=some r):Zd1 Tryz.prog 51 [Go.Proofs.YtkfbakhnpfmfmaaGreatDoor.vs s] [] (.tu [.ag (Zd7 r.1),vb r.2]) []:=by
 refine Zhh (fun w E=>labV r) fun S β w vs hsz ht hl ha=>?_
 obtain ⟨x,hx,hr1⟩:=ha 0 _ rfl
 obtain rfl:=ar1 hl hx
 obtain rfl:=rv1 hr1
 have bad:∀ {X:Prop},some (Zhn,false)=some r→(Calls Tryz.prog 51 #[.string s] w fun e w'=>e=.returned (.tuple #[.agg #[.int .i64 0,.int .i64 0,.string ⟨#[]⟩],.bool false])∧Up w w')→Calls Tryz.prog 51 #[.string s] w fun e w'=>e=.returned (.tuple #[.agg #[.int .i64 r.1.service,.int .i64 r.1.serial,.string r.1.to_],.bool r.2])∧Up w w':=fun e h=>by
  obtain rfl:=Option.some.inj e
  exact h
 unfold ZaR at H
 by_cases hm:s.size≤100000000
 case neg=>rw [if_neg hm] at H; cases H
 rw [if_pos hm] at H
 by_cases hs:s.size=15
 ·rw [if_pos hs] at H
  by_cases h1:∃ v,Lib.atoiAll (s.extract 0 1).data.toList=.ok v
  ·obtain ⟨a,h1⟩:=h1
   rw [h1] at H
   by_cases h2:∃ v,Lib.atoiAll (s.extract 1 10).data.toList=.ok v
   ·obtain ⟨b,h2⟩:=h2
    rw [h2] at H
    simp only at H
    cases hF:ZM ⟨a,b,s.extract 10 13⟩ with
    | none=>rw [hF] at H; cases H
    | some t=>
     rw [hF,Option.bind_some] at H
     obtain rfl:=Option.some.inj H
     refine (Zkh s w ht hs h1 h2 hF).mono fun e w' ⟨h1,h2⟩=>⟨?_,h2⟩
     rw [h1]
     split <;> rfl
   ·have h2':∀ v,Lib.atoiAll (s.extract 1 10).data.toList≠.ok v:=fun v e=>h2 ⟨v,e⟩
    refine bad (X:=True) ?_ (ZjP s w ht hs h1 h2')
    rw [← H]
    cases hh:Lib.atoiAll (s.extract 1 10).data.toList with
    | ok v=>exact absurd hh (h2' v)
    | _=>rfl
  ·have h1':∀ v,Lib.atoiAll (s.extract 0 1).data.toList≠.ok v:=fun v e=>h1 ⟨v,e⟩
   refine bad (X:=True) ?_ (ZjO s w ht hs h1')
   rw [← H]
   cases hh:Lib.atoiAll (s.extract 0 1).data.toList with
   | ok v=>exact absurd hh (h1' v)
   | _=>rfl
 ·rw [if_neg hs] at H
  exact bad (X:=True) H (Zki s w hs hm)
instance (s:ByteArray):CT Tryz.prog (ZaR s):=⟨51,[vs s],[],fun r=>.tu [.ag [vi r.1.service,vi r.1.serial,vs r.1.to_],vb r.2],fun r=>[],ZhM s⟩
set_option maxHeartbeats 16000000
def Zbc (s:ByteArray) (at1_:Int) (s0:Int × Int × (List ByteArray)):Option ((Int × Int × (List ByteArray)) ⊕ (Int × (List ByteArray))):=
 cond (decide (s0.2.1<(s.size:Int)))
 ((jn 6 5 (
 (getB s s0.2.1).bind fun y1=>
 cond (decide (y1=at1_))
 ((chk (slOk s0.1 s0.2.1 s.size)).bind fun _=>
 (chk (Z9 ((s0.2.2:List ByteArray).length+([(subS s s0.1 s0.2.1)]:List ByteArray).length) 16)).bind fun _=>
 some (.inl ((w64 (s0.2.1+1)),((s0.2.2:List ByteArray)++[(subS s s0.1 s0.2.1)]))))
 (some (.inl (s0.1,s0.2.2))):Option ((Int × (List ByteArray)) ⊕ Empty)) (fun z2=>(vs s::v8 at1_::(U 3 (.ms 0::vi z2.1::vi s0.2.1::(U 27 []))))) (fun z2=>[some ⟨.of 9,1,z2.2.map cStr⟩])).bind (Zu (fun z2=>
 some (.inl (z2.1,(w64 (s0.2.1+1)),z2.2))) (fun r=>nomatch r)))
 (some (.inr (s0.1,s0.2.2)))
instance (s:ByteArray) (at1_:Int):Z1 (Zbc s at1_):=⟨fun s0=>(vs s::v8 at1_::(U 3 (.ms 0::vi s0.1::vi s0.2.1::(U 27 [])))),fun s0=>[some ⟨.of 9,1,s0.2.2.map cStr⟩]⟩
def ZX (s:ByteArray) (at1_:Int):Option (List ByteArray):=
 (Zj (Zbc s at1_) NN (0,0,([]:List ByteArray))).bind (fun o0=>
 (chk (slOk o0.1 (s.size:Int) s.size)).bind fun _=>
 (chk (Z9 ((o0.2:List ByteArray).length+([(subS s o0.1 (s.size:Int))]:List ByteArray).length) 16)).bind fun _=>
 some ((o0.2:List ByteArray)++[(subS s o0.1 (s.size:Int))]))
instance (s:ByteArray) (at1_:Int):CT Tryz.prog (ZX s at1_):=⟨21,[vs s,v8 at1_],[],fun r=>.ms 0,fun r=>[some ⟨.of 9,1,r.map cStr⟩],fun H=>by replace H:=H0 H; unfold ZX at H; exact Zd Tryz.func21 rfl Tryz.ntmps21 Tryz.results21 fun Q hQ hQn=>wk3⟩
def ZdV (l:Zw):Option ByteArray:=
 (Zs l.service).bind fun y1=>
 (ZcR l.serial 9).bind fun y2=>
 (chk (ZaK y1 y2)).bind fun _=>
 (chk (ZaK (y1++y2) l.to_)).bind fun _=>
 some ((y1++y2)++l.to_)
instance (l:Zw):CT Tryz.prog (ZdV l):=⟨89,[.ag (Zd7 l)],[],fun r=>vs r,fun r=>[],fun H=>by replace H:=H0 H; unfold ZdV at H; exact Zd Tryz.func89 rfl Tryz.ntmps89 Tryz.results89 fun Q hQ hQn=>wk3⟩
def Zcs (l:Zw):Option Int:=
 (ZJ l).bind fun y1=>
 cond (!y1)
 (some (-1))
 ((ZdV l).bind fun y2=>
 (chk (ZaK y2 (⟨#[48,48]⟩))).bind fun _=>
 (ZeC (y2++⟨#[48,48]⟩)).bind fun y3=>
 (Zcj y3.1).bind fun y4=>
 some (w64 (98-y4)))
instance (l:Zw):CT Tryz.prog (Zcs l):=⟨91,[.ag (Zd7 l)],[],fun r=>vi r,fun r=>[],fun H=>by replace H:=H0 H; unfold Zcs at H; exact Zd Tryz.func91 rfl Tryz.ntmps91 Tryz.results91 fun Q hQ hQn=>wk3⟩
def Z5 (l:Zw):Option ByteArray:=
 (ZJ l).bind fun y1=>
 cond (!y1)
 (some (⟨#[]⟩))
 ((ZdV l).bind fun y2=>
 (Zcs l).bind fun y3=>
 (ZcR y3 2).bind fun y4=>
 (chk (ZaK y2 y4)).bind fun _=>
 some (y2++y4))
instance (l:Zw):CT Tryz.prog (Z5 l):=⟨70,[.ag (Zd7 l)],[],fun r=>vs r,fun r=>[],fun H=>by replace H:=H0 H; unfold Z5 at H; exact Zd Tryz.func70 rfl Tryz.ntmps70 Tryz.results70 fun Q hQ hQn=>wk3⟩
def ZH (s:ByteArray) (s0:Int × Int):Option ((Int × Int) ⊕ (Int ⊕ (Int × Bool))):=
 cond (decide (s0.2<(s.size:Int)))
 (cond (decide (s0.2<11))
 ((getB s s0.2).bind fun y1=>
 (Zl (IntKind.i64.wrap y1) 48 57).bind fun y2=>
 cond (!y2)
 (some (.inr (.inr (0,false))))
 ((getB s s0.2).bind fun y3=>
 some (.inl ((w64 ((w64 (10*s0.1))+(IntKind.i64.wrap (IntKind.u8.wrap (y3-48))))),(w64 (s0.2+1))))))
 (some (.inr (.inl s0.1))))
 (some (.inr (.inl s0.1)))
instance (s:ByteArray):Z1 (ZH s):=⟨fun s0=>(vs s::(U 3 (vi s0.1::vi s0.2::(U 33 [])))),fun s0=>[]⟩
def Z7 (s:ByteArray):Option (Int × Bool):=
 (Zj (ZH s) NN (0,0)).bind (Zu (fun o0=>
 cond (decide (1000000000<o0))
 (some (0,false))
 ((Zs o0).bind fun y4=>
 cond (!decide (y4=s))
 (some (0,false))
 (some (o0,true)))) (fun r=>some r))
instance (s:ByteArray):CT Tryz.prog (Z7 s):=⟨22,[vs s],[],fun r=>.tu [vi r.1,vb r.2],fun r=>[],fun H=>by replace H:=H0 H; unfold Z7 at H; exact Zd Tryz.func22 rfl Tryz.ntmps22 Tryz.results22 fun Q hQ hQn=>wk3⟩
def ZaZ (s:ByteArray) (y1:Int) (s0:Int × Int):Option ((Int × Int) ⊕ Int):=
 cond (decide (s0.1<10))
 ((getB s s0.1).bind fun y2=>
 some (.inl ((w64 (s0.1+1)),(w64 ((w64 ((w64 (10*s0.2))+(IntKind.i64.wrap y2)))-48)))))
 (some (.inr s0.2))
instance (s:ByteArray) (y1:Int):Z1 (ZaZ s y1):=⟨fun s0=>(vs s::.un::.be 0 0 0::.un::.be 1 0 0::vi s0.1::(U 31 [])),fun s0=>[some ⟨.of 23,3,[[vi 0,vi 0,vs (⟨#[]⟩)]]⟩,some ⟨.of 23,3,[[vi (w64 ((IntKind.i64.wrap y1)-48)),vi s0.2,vs (subS s 10 13)]]⟩]⟩
def ZcO (s:ByteArray):Option (Zw × Bool):=
 cond (!decide ((s.size:Int)=15))
 (some ((⟨0,0,⟨#[]⟩⟩:Zw),false))
 ((getB s 0).bind fun y1=>
 (chk (slOk 10 13 s.size)).bind fun _=>
 (Zj (ZaZ s y1) NN (1,0)).bind (fun o0=>
 (Z5 (⟨(w64 ((IntKind.i64.wrap y1)-48)),o0,(subS s 10 13)⟩:Zw)).bind fun y3=>
 cond (!decide (y3=s))
 (some ((⟨0,0,⟨#[]⟩⟩:Zw),false))
 (some ((⟨(w64 ((IntKind.i64.wrap y1)-48)),o0,(subS s 10 13)⟩:Zw),true))))
instance (s:ByteArray):CT Tryz.prog (ZcO s):=⟨48,[vs s],[],fun r=>.tu [.ag [vi r.1.service,vi r.1.serial,vs r.1.to_],vb r.2],fun r=>[],fun H=>by replace H:=H0 H; unfold ZcO at H; exact Zd Tryz.func48 rfl Tryz.ntmps48 Tryz.results48 fun Q hQ hQn=>wk3⟩
def Zab (p:Zi):Option ByteArray:=
 (Zaf p).bind fun y1=>
 cond (!y1)
 (some (⟨#[]⟩))
 ((Z5 p.label).bind fun y2=>
 (chk (ZaK y2 (⟨#[32]⟩))).bind fun _=>
 (chk (ZaK (y2++⟨#[32]⟩) p.from_)).bind fun _=>
 (chk (ZaK ((y2++⟨#[32]⟩)++p.from_) (⟨#[32]⟩))).bind fun _=>
 (Zs p.weight).bind fun y3=>
 (chk (ZaK (((y2++⟨#[32]⟩)++p.from_)++⟨#[32]⟩) y3)).bind fun _=>
 (chk (ZaK ((((y2++⟨#[32]⟩)++p.from_)++⟨#[32]⟩)++y3) (⟨#[32]⟩))).bind fun _=>
 (getI p.sides 0).bind fun y4=>
 (Zs y4).bind fun y5=>
 (chk (ZaK (((((y2++⟨#[32]⟩)++p.from_)++⟨#[32]⟩)++y3)++⟨#[32]⟩) y5)).bind fun _=>
 (chk (ZaK ((((((y2++⟨#[32]⟩)++p.from_)++⟨#[32]⟩)++y3)++⟨#[32]⟩)++y5) (⟨#[120]⟩))).bind fun _=>
 (getI p.sides 1).bind fun y6=>
 (Zs y6).bind fun y7=>
 (chk (ZaK (((((((y2++⟨#[32]⟩)++p.from_)++⟨#[32]⟩)++y3)++⟨#[32]⟩)++y5)++⟨#[120]⟩) y7)).bind fun _=>
 (chk (ZaK ((((((((y2++⟨#[32]⟩)++p.from_)++⟨#[32]⟩)++y3)++⟨#[32]⟩)++y5)++⟨#[120]⟩)++y7) (⟨#[120]⟩))).bind fun _=>
 (getI p.sides 2).bind fun y8=>
 (Zs y8).bind fun y9=>
 (chk (ZaK (((((((((y2++⟨#[32]⟩)++p.from_)++⟨#[32]⟩)++y3)++⟨#[32]⟩)++y5)++⟨#[120]⟩)++y7)++⟨#[120]⟩) y9)).bind fun _=>
 (chk (ZaK ((((((((((y2++⟨#[32]⟩)++p.from_)++⟨#[32]⟩)++y3)++⟨#[32]⟩)++y5)++⟨#[120]⟩)++y7)++⟨#[120]⟩)++y9) (⟨#[32]⟩))).bind fun _=>
 (Zs p.value).bind fun y10=>
 (chk (ZaK (((((((((((y2++⟨#[32]⟩)++p.from_)++⟨#[32]⟩)++y3)++⟨#[32]⟩)++y5)++⟨#[120]⟩)++y7)++⟨#[120]⟩)++y9)++⟨#[32]⟩) y10)).bind fun _=>
 some ((((((((((((y2++⟨#[32]⟩)++p.from_)++⟨#[32]⟩)++y3)++⟨#[32]⟩)++y5)++⟨#[120]⟩)++y7)++⟨#[120]⟩)++y9)++⟨#[32]⟩)++y10))
instance (p:Zi):CT Tryz.prog (Zab p):=⟨49,[.ag (Zar p)],[],fun r=>vs r,fun r=>[],fun H=>by replace H:=H0 H; unfold Zab at H; exact Zd Tryz.func49 rfl Tryz.ntmps49 Tryz.results49 fun Q hQ hQn=>wk3⟩
def ZF (a:YAct):Option ByteArray:=
 (Zaj a).bind fun y1=>
 cond (!y1)
 (some (⟨#[]⟩))
 (cond (decide (a.kind=1))
 ((Zab a.parcel).bind fun y2=>
 (chk (ZaK (⟨#[116,97,107,101,32]⟩) y2)).bind fun _=>
 some (⟨#[116,97,107,101,32]⟩++y2))
 (cond (decide (a.kind=2))
 ((Zs a.order).bind fun y3=>
 (chk (ZaK (⟨#[112,97,121,32]⟩) y3)).bind fun _=>
 (chk (ZaK (⟨#[112,97,121,32]⟩++y3) (⟨#[32]⟩))).bind fun _=>
 (Zs a.amount).bind fun y4=>
 (chk (ZaK ((⟨#[112,97,121,32]⟩++y3)++⟨#[32]⟩) y4)).bind fun _=>
 some (((⟨#[112,97,121,32]⟩++y3)++⟨#[32]⟩)++y4))
 (cond (decide (a.kind=3))
 ((Zs a.until_).bind fun y5=>
 (chk (ZaK (⟨#[114,117,110,32]⟩) y5)).bind fun _=>
 some (⟨#[114,117,110,32]⟩++y5))
 (cond (decide (a.kind=4))
 ((Zs a.trip.leg).bind fun y6=>
 (chk (ZaK (⟨#[115,104,117,116,32]⟩) y6)).bind fun _=>
 (chk (ZaK (⟨#[115,104,117,116,32]⟩++y6) (⟨#[47]⟩))).bind fun _=>
 (Zs a.trip.day).bind fun y7=>
 (chk (ZaK ((⟨#[115,104,117,116,32]⟩++y6)++⟨#[47]⟩) y7)).bind fun _=>
 some (((⟨#[115,104,117,116,32]⟩++y6)++⟨#[47]⟩)++y7))
 (cond (decide (a.kind=5))
 (some (⟨#[114,101,116,114,121]⟩))
 ((Zs a.order).bind fun y8=>
 (chk (ZaK (⟨#[114,101,102,117,110,100,32]⟩) y8)).bind fun _=>
 some (⟨#[114,101,102,117,110,100,32]⟩++y8)))))))
instance (a:YAct):CT Tryz.prog (ZF a):=⟨25,[.ag (cAct a)],[],fun r=>vs r,fun r=>[],fun H=>by replace H:=H0 H; unfold ZF at H; exact Zd Tryz.func25 rfl Tryz.ntmps25 Tryz.results25 fun Q hQ hQn=>wk3⟩
def ZbG (s:ByteArray) (y1:(List ByteArray)) (y2:ByteArray) (y4:Zw × Bool) (y6:Int × Bool) (y8:(List ByteArray)) (s0:Int × (List Int)):Option ((Int × (List Int)) ⊕ (List Int)):=
 cond (decide (s0.1<(y8.length:Int)))
 ((getI y8 s0.1).bind fun y9=>
 (Z7 y9).bind fun y10=>
 (chk (Z9 ((s0.2:List Int).length+([y10.1]:List Int).length) 8)).bind fun _=>
 some (.inl ((w64 (s0.1+1)),((s0.2:List Int)++[y10.1]))))
 (some (.inr s0.2))
instance (s:ByteArray) (y1:(List ByteArray)) (y2:ByteArray) (y4:Zw × Bool) (y6:Int × Bool) (y8:(List ByteArray)):Z1 (ZbG s y1 y2 y4 y6 y8):=⟨fun s0=>(vs s::.un::.be 0 0 0::.un::.ms 1::.be 2 0 0::.un::vb y4.2::.un::.un::.ms 4::vi s0.1::(U 75 [])),fun s0=>[some ⟨.of 26,7,[[vi 0,vi 0,vs (⟨#[]⟩),vs (⟨#[]⟩),vi 0,.v (.slice none 0 0),vi 0]]⟩,some ⟨.of 9,1,y1.map cStr⟩,some ⟨.of 26,7,[[vi y4.1.service,vi y4.1.serial,vs y4.1.to_,vs y2,vi y6.1,.ms 3,vi 0]]⟩,some ⟨.of 3,1,s0.2.map cInt⟩,some ⟨.of 9,1,y8.map cStr⟩]⟩
def ZbE (s:ByteArray):Option (Zi × Bool):=
 (ZX s 32).bind fun y1=>
 cond (!decide ((y1.length:Int)=5))
 (some ((⟨(⟨0,0,⟨#[]⟩⟩:Zw),⟨#[]⟩,0,[],0⟩:Zi),false))
 ((getI y1 1).bind fun y2=>
 (getI y1 0).bind fun y3=>
 (ZcO y3).bind fun y4=>
 (getI y1 2).bind fun y5=>
 (Z7 y5).bind fun y6=>
 (getI y1 3).bind fun y7=>
 (ZX y7 120).bind fun y8=>
 (Zj (ZbG s y1 y2 y4 y6 y8) NN (0,[])).bind (fun o0=>
 (getI y1 4).bind fun y11=>
 (Z7 y11).bind fun y12=>
 cond (!y4.2)
 (some ((⟨(⟨0,0,⟨#[]⟩⟩:Zw),⟨#[]⟩,0,[],0⟩:Zi),false))
 ((Zab (⟨y4.1,y2,y6.1,o0,y12.1⟩:Zi)).bind fun y13=>
 cond (!decide (y13=s))
 (some ((⟨(⟨0,0,⟨#[]⟩⟩:Zw),⟨#[]⟩,0,[],0⟩:Zi),false))
 (some ((⟨y4.1,y2,y6.1,o0,y12.1⟩:Zi),true)))))
instance (s:ByteArray):CT Tryz.prog (ZbE s):=⟨23,[vs s],[],fun r=>.tu [.ag [vi r.1.label.service,vi r.1.label.serial,vs r.1.label.to_,vs r.1.from_,vi r.1.weight,.ms 0,vi r.1.value],vb r.2],fun r=>[some ⟨.of 3,1,r.1.sides.map cInt⟩],fun H=>by replace H:=H0 H; unfold ZbE at H; exact Zd Tryz.func23 rfl Tryz.ntmps23 Tryz.results23 fun Q hQ hQn=>wk3⟩
def Zat (s:ByteArray):Option Zg:=
 (ZX s 47).bind fun y1=>
 cond (!decide ((y1.length:Int)=2))
 (some (⟨(-1),0⟩:Zg))
 ((getI y1 0).bind fun y2=>
 (Z7 y2).bind fun y3=>
 (getI y1 1).bind fun y4=>
 (Z7 y4).bind fun y5=>
 cond (!y3.2)
 (some (⟨(-1),0⟩:Zg))
 (cond (!y5.2)
 (some (⟨(-1),0⟩:Zg))
 (some (⟨y3.1,y5.1⟩:Zg))))
instance (s:ByteArray):CT Tryz.prog (Zat s):=⟨24,[vs s],[],fun r=>.ag [vi r.leg,vi r.day],fun r=>[],fun H=>by replace H:=H0 H; unfold Zat at H; exact Zd Tryz.func24 rfl Tryz.ntmps24 Tryz.results24 fun Q hQ hQn=>wk3⟩
def Zau (s:ByteArray):Option (YAct × Bool):=
 (ZX s 32).bind fun y1=>
 (jn 4 7 (
 cond (decide (1<(y1.length:Int)))
 ((getI y1 1).bind fun y2=>
 (Z7 y2).bind fun y3=>
 some (.inl y3.1))
 (some (.inl 0)):Option (Int ⊕ Empty)) (fun z4=>(vs s::.un::.be 0 0 0::.un::.ms 1::.be 2 0 0::vi z4::(U 109 []))) (fun z4=>[some ⟨.of 30,13,[[vi 0,vi 0,vi 0,vs (⟨#[]⟩),vs (⟨#[]⟩),vi 0,.v (.slice none 0 0),vi 0,vi 0,vi 0,vi 0,vi 0,vi 0]]⟩,some ⟨.of 9,1,y1.map cStr⟩,some ⟨.of 30,13,[[vi 0,vi 0,vi 0,vs (⟨#[]⟩),vs (⟨#[]⟩),vi 0,.v (.slice none 0 0),vi 0,vi 0,vi 0,vi 0,vi 0,vi 0]]⟩])).bind (Zu (fun z4=>
 (jn 7 21 (
 (getI y1 0).bind fun y5=>
 cond (decide (y5=⟨#[116,97,107,101]⟩))
 (cond (decide (5<(s.size:Int)))
 ((chk (slOk 5 (s.size:Int) s.size)).bind fun _=>
 (ZbE (subS s 5 (s.size:Int))).bind fun y6=>
 some (.inl (1,y6.1.label.service,y6.1.label.serial,y6.1.label.to_,y6.1.from_,y6.1.weight,y6.1.value,0,0,0,0,0,y6.1.sides)))
 ((getI y1 0).bind fun y7=>
 cond (decide (y7=⟨#[112,97,121]⟩))
 (cond (decide ((y1.length:Int)=3))
 ((getI y1 2).bind fun y8=>
 (Z7 y8).bind fun y9=>
 some (.inl (2,0,0,⟨#[]⟩,⟨#[]⟩,0,0,z4,y9.1,0,0,0,[])))
 ((getI y1 0).bind fun y10=>
 cond (decide (y10=⟨#[114,117,110]⟩))
 (cond (decide ((y1.length:Int)=2))
 (some (.inl (3,0,0,⟨#[]⟩,⟨#[]⟩,0,0,0,0,z4,0,0,[])))
 ((getI y1 0).bind fun y11=>
 cond (decide (y11=⟨#[115,104,117,116]⟩))
 (cond (decide ((y1.length:Int)=2))
 ((getI y1 1).bind fun y12=>
 (Zat y12).bind fun y13=>
 some (.inl (4,0,0,⟨#[]⟩,⟨#[]⟩,0,0,0,0,0,y13.leg,y13.day,[])))
 ((getI y1 0).bind fun y14=>
 cond (decide (y14=⟨#[114,101,116,114,121]⟩))
 (some (.inl (5,0,0,⟨#[]⟩,⟨#[]⟩,0,0,0,0,0,0,0,[])))
 ((getI y1 0).bind fun y15=>
 cond (decide (y15=⟨#[114,101,102,117,110,100]⟩))
 (some (.inl (6,0,0,⟨#[]⟩,⟨#[]⟩,0,0,z4,0,0,0,0,[])))
 (some (.inl (0,0,0,⟨#[]⟩,⟨#[]⟩,0,0,0,0,0,0,0,[]))))))
 ((getI y1 0).bind fun y16=>
 cond (decide (y16=⟨#[114,101,116,114,121]⟩))
 (some (.inl (5,0,0,⟨#[]⟩,⟨#[]⟩,0,0,0,0,0,0,0,[])))
 ((getI y1 0).bind fun y17=>
 cond (decide (y17=⟨#[114,101,102,117,110,100]⟩))
 (some (.inl (6,0,0,⟨#[]⟩,⟨#[]⟩,0,0,z4,0,0,0,0,[])))
 (some (.inl (0,0,0,⟨#[]⟩,⟨#[]⟩,0,0,0,0,0,0,0,[])))))))
 ((getI y1 0).bind fun y18=>
 cond (decide (y18=⟨#[115,104,117,116]⟩))
 (cond (decide ((y1.length:Int)=2))
 ((getI y1 1).bind fun y19=>
 (Zat y19).bind fun y20=>
 some (.inl (4,0,0,⟨#[]⟩,⟨#[]⟩,0,0,0,0,0,y20.leg,y20.day,[])))
 ((getI y1 0).bind fun y21=>
 cond (decide (y21=⟨#[114,101,116,114,121]⟩))
 (some (.inl (5,0,0,⟨#[]⟩,⟨#[]⟩,0,0,0,0,0,0,0,[])))
 ((getI y1 0).bind fun y22=>
 cond (decide (y22=⟨#[114,101,102,117,110,100]⟩))
 (some (.inl (6,0,0,⟨#[]⟩,⟨#[]⟩,0,0,z4,0,0,0,0,[])))
 (some (.inl (0,0,0,⟨#[]⟩,⟨#[]⟩,0,0,0,0,0,0,0,[]))))))
 ((getI y1 0).bind fun y23=>
 cond (decide (y23=⟨#[114,101,116,114,121]⟩))
 (some (.inl (5,0,0,⟨#[]⟩,⟨#[]⟩,0,0,0,0,0,0,0,[])))
 ((getI y1 0).bind fun y24=>
 cond (decide (y24=⟨#[114,101,102,117,110,100]⟩))
 (some (.inl (6,0,0,⟨#[]⟩,⟨#[]⟩,0,0,z4,0,0,0,0,[])))
 (some (.inl (0,0,0,⟨#[]⟩,⟨#[]⟩,0,0,0,0,0,0,0,[]))))))))
 ((getI y1 0).bind fun y25=>
 cond (decide (y25=⟨#[114,117,110]⟩))
 (cond (decide ((y1.length:Int)=2))
 (some (.inl (3,0,0,⟨#[]⟩,⟨#[]⟩,0,0,0,0,z4,0,0,[])))
 ((getI y1 0).bind fun y26=>
 cond (decide (y26=⟨#[115,104,117,116]⟩))
 (cond (decide ((y1.length:Int)=2))
 ((getI y1 1).bind fun y27=>
 (Zat y27).bind fun y28=>
 some (.inl (4,0,0,⟨#[]⟩,⟨#[]⟩,0,0,0,0,0,y28.leg,y28.day,[])))
 ((getI y1 0).bind fun y29=>
 cond (decide (y29=⟨#[114,101,116,114,121]⟩))
 (some (.inl (5,0,0,⟨#[]⟩,⟨#[]⟩,0,0,0,0,0,0,0,[])))
 ((getI y1 0).bind fun y30=>
 cond (decide (y30=⟨#[114,101,102,117,110,100]⟩))
 (some (.inl (6,0,0,⟨#[]⟩,⟨#[]⟩,0,0,z4,0,0,0,0,[])))
 (some (.inl (0,0,0,⟨#[]⟩,⟨#[]⟩,0,0,0,0,0,0,0,[]))))))
 ((getI y1 0).bind fun y31=>
 cond (decide (y31=⟨#[114,101,116,114,121]⟩))
 (some (.inl (5,0,0,⟨#[]⟩,⟨#[]⟩,0,0,0,0,0,0,0,[])))
 ((getI y1 0).bind fun y32=>
 cond (decide (y32=⟨#[114,101,102,117,110,100]⟩))
 (some (.inl (6,0,0,⟨#[]⟩,⟨#[]⟩,0,0,z4,0,0,0,0,[])))
 (some (.inl (0,0,0,⟨#[]⟩,⟨#[]⟩,0,0,0,0,0,0,0,[])))))))
 ((getI y1 0).bind fun y33=>
 cond (decide (y33=⟨#[115,104,117,116]⟩))
 (cond (decide ((y1.length:Int)=2))
 ((getI y1 1).bind fun y34=>
 (Zat y34).bind fun y35=>
 some (.inl (4,0,0,⟨#[]⟩,⟨#[]⟩,0,0,0,0,0,y35.leg,y35.day,[])))
 ((getI y1 0).bind fun y36=>
 cond (decide (y36=⟨#[114,101,116,114,121]⟩))
 (some (.inl (5,0,0,⟨#[]⟩,⟨#[]⟩,0,0,0,0,0,0,0,[])))
 ((getI y1 0).bind fun y37=>
 cond (decide (y37=⟨#[114,101,102,117,110,100]⟩))
 (some (.inl (6,0,0,⟨#[]⟩,⟨#[]⟩,0,0,z4,0,0,0,0,[])))
 (some (.inl (0,0,0,⟨#[]⟩,⟨#[]⟩,0,0,0,0,0,0,0,[]))))))
 ((getI y1 0).bind fun y38=>
 cond (decide (y38=⟨#[114,101,116,114,121]⟩))
 (some (.inl (5,0,0,⟨#[]⟩,⟨#[]⟩,0,0,0,0,0,0,0,[])))
 ((getI y1 0).bind fun y39=>
 cond (decide (y39=⟨#[114,101,102,117,110,100]⟩))
 (some (.inl (6,0,0,⟨#[]⟩,⟨#[]⟩,0,0,z4,0,0,0,0,[])))
 (some (.inl (0,0,0,⟨#[]⟩,⟨#[]⟩,0,0,0,0,0,0,0,[])))))))))
 ((getI y1 0).bind fun y40=>
 cond (decide (y40=⟨#[112,97,121]⟩))
 (cond (decide ((y1.length:Int)=3))
 ((getI y1 2).bind fun y41=>
 (Z7 y41).bind fun y42=>
 some (.inl (2,0,0,⟨#[]⟩,⟨#[]⟩,0,0,z4,y42.1,0,0,0,[])))
 ((getI y1 0).bind fun y43=>
 cond (decide (y43=⟨#[114,117,110]⟩))
 (cond (decide ((y1.length:Int)=2))
 (some (.inl (3,0,0,⟨#[]⟩,⟨#[]⟩,0,0,0,0,z4,0,0,[])))
 ((getI y1 0).bind fun y44=>
 cond (decide (y44=⟨#[115,104,117,116]⟩))
 (cond (decide ((y1.length:Int)=2))
 ((getI y1 1).bind fun y45=>
 (Zat y45).bind fun y46=>
 some (.inl (4,0,0,⟨#[]⟩,⟨#[]⟩,0,0,0,0,0,y46.leg,y46.day,[])))
 ((getI y1 0).bind fun y47=>
 cond (decide (y47=⟨#[114,101,116,114,121]⟩))
 (some (.inl (5,0,0,⟨#[]⟩,⟨#[]⟩,0,0,0,0,0,0,0,[])))
 ((getI y1 0).bind fun y48=>
 cond (decide (y48=⟨#[114,101,102,117,110,100]⟩))
 (some (.inl (6,0,0,⟨#[]⟩,⟨#[]⟩,0,0,z4,0,0,0,0,[])))
 (some (.inl (0,0,0,⟨#[]⟩,⟨#[]⟩,0,0,0,0,0,0,0,[]))))))
 ((getI y1 0).bind fun y49=>
 cond (decide (y49=⟨#[114,101,116,114,121]⟩))
 (some (.inl (5,0,0,⟨#[]⟩,⟨#[]⟩,0,0,0,0,0,0,0,[])))
 ((getI y1 0).bind fun y50=>
 cond (decide (y50=⟨#[114,101,102,117,110,100]⟩))
 (some (.inl (6,0,0,⟨#[]⟩,⟨#[]⟩,0,0,z4,0,0,0,0,[])))
 (some (.inl (0,0,0,⟨#[]⟩,⟨#[]⟩,0,0,0,0,0,0,0,[])))))))
 ((getI y1 0).bind fun y51=>
 cond (decide (y51=⟨#[115,104,117,116]⟩))
 (cond (decide ((y1.length:Int)=2))
 ((getI y1 1).bind fun y52=>
 (Zat y52).bind fun y53=>
 some (.inl (4,0,0,⟨#[]⟩,⟨#[]⟩,0,0,0,0,0,y53.leg,y53.day,[])))
 ((getI y1 0).bind fun y54=>
 cond (decide (y54=⟨#[114,101,116,114,121]⟩))
 (some (.inl (5,0,0,⟨#[]⟩,⟨#[]⟩,0,0,0,0,0,0,0,[])))
 ((getI y1 0).bind fun y55=>
 cond (decide (y55=⟨#[114,101,102,117,110,100]⟩))
 (some (.inl (6,0,0,⟨#[]⟩,⟨#[]⟩,0,0,z4,0,0,0,0,[])))
 (some (.inl (0,0,0,⟨#[]⟩,⟨#[]⟩,0,0,0,0,0,0,0,[]))))))
 ((getI y1 0).bind fun y56=>
 cond (decide (y56=⟨#[114,101,116,114,121]⟩))
 (some (.inl (5,0,0,⟨#[]⟩,⟨#[]⟩,0,0,0,0,0,0,0,[])))
 ((getI y1 0).bind fun y57=>
 cond (decide (y57=⟨#[114,101,102,117,110,100]⟩))
 (some (.inl (6,0,0,⟨#[]⟩,⟨#[]⟩,0,0,z4,0,0,0,0,[])))
 (some (.inl (0,0,0,⟨#[]⟩,⟨#[]⟩,0,0,0,0,0,0,0,[]))))))))
 ((getI y1 0).bind fun y58=>
 cond (decide (y58=⟨#[114,117,110]⟩))
 (cond (decide ((y1.length:Int)=2))
 (some (.inl (3,0,0,⟨#[]⟩,⟨#[]⟩,0,0,0,0,z4,0,0,[])))
 ((getI y1 0).bind fun y59=>
 cond (decide (y59=⟨#[115,104,117,116]⟩))
 (cond (decide ((y1.length:Int)=2))
 ((getI y1 1).bind fun y60=>
 (Zat y60).bind fun y61=>
 some (.inl (4,0,0,⟨#[]⟩,⟨#[]⟩,0,0,0,0,0,y61.leg,y61.day,[])))
 ((getI y1 0).bind fun y62=>
 cond (decide (y62=⟨#[114,101,116,114,121]⟩))
 (some (.inl (5,0,0,⟨#[]⟩,⟨#[]⟩,0,0,0,0,0,0,0,[])))
 ((getI y1 0).bind fun y63=>
 cond (decide (y63=⟨#[114,101,102,117,110,100]⟩))
 (some (.inl (6,0,0,⟨#[]⟩,⟨#[]⟩,0,0,z4,0,0,0,0,[])))
 (some (.inl (0,0,0,⟨#[]⟩,⟨#[]⟩,0,0,0,0,0,0,0,[]))))))
 ((getI y1 0).bind fun y64=>
 cond (decide (y64=⟨#[114,101,116,114,121]⟩))
 (some (.inl (5,0,0,⟨#[]⟩,⟨#[]⟩,0,0,0,0,0,0,0,[])))
 ((getI y1 0).bind fun y65=>
 cond (decide (y65=⟨#[114,101,102,117,110,100]⟩))
 (some (.inl (6,0,0,⟨#[]⟩,⟨#[]⟩,0,0,z4,0,0,0,0,[])))
 (some (.inl (0,0,0,⟨#[]⟩,⟨#[]⟩,0,0,0,0,0,0,0,[])))))))
 ((getI y1 0).bind fun y66=>
 cond (decide (y66=⟨#[115,104,117,116]⟩))
 (cond (decide ((y1.length:Int)=2))
 ((getI y1 1).bind fun y67=>
 (Zat y67).bind fun y68=>
 some (.inl (4,0,0,⟨#[]⟩,⟨#[]⟩,0,0,0,0,0,y68.leg,y68.day,[])))
 ((getI y1 0).bind fun y69=>
 cond (decide (y69=⟨#[114,101,116,114,121]⟩))
 (some (.inl (5,0,0,⟨#[]⟩,⟨#[]⟩,0,0,0,0,0,0,0,[])))
 ((getI y1 0).bind fun y70=>
 cond (decide (y70=⟨#[114,101,102,117,110,100]⟩))
 (some (.inl (6,0,0,⟨#[]⟩,⟨#[]⟩,0,0,z4,0,0,0,0,[])))
 (some (.inl (0,0,0,⟨#[]⟩,⟨#[]⟩,0,0,0,0,0,0,0,[]))))))
 ((getI y1 0).bind fun y71=>
 cond (decide (y71=⟨#[114,101,116,114,121]⟩))
 (some (.inl (5,0,0,⟨#[]⟩,⟨#[]⟩,0,0,0,0,0,0,0,[])))
 ((getI y1 0).bind fun y72=>
 cond (decide (y72=⟨#[114,101,102,117,110,100]⟩))
 (some (.inl (6,0,0,⟨#[]⟩,⟨#[]⟩,0,0,z4,0,0,0,0,[])))
 (some (.inl (0,0,0,⟨#[]⟩,⟨#[]⟩,0,0,0,0,0,0,0,[])))))))):Option ((Int × Int × Int × ByteArray × ByteArray × Int × Int × Int × Int × Int × Int × Int × (List Int)) ⊕ Empty)) (fun z73=>(vs s::.un::.be 0 0 0::.un::.un::.be 1 0 0::(U 110 []))) (fun z73=>[some ⟨.of 30,13,[[vi 0,vi 0,vi 0,vs (⟨#[]⟩),vs (⟨#[]⟩),vi 0,.v (.slice none 0 0),vi 0,vi 0,vi 0,vi 0,vi 0,vi 0]]⟩,some ⟨.of 30,13,[[vi z73.1,vi z73.2.1,vi z73.2.2.1,vs z73.2.2.2.1,vs z73.2.2.2.2.1,vi z73.2.2.2.2.2.1,.ms 2,vi z73.2.2.2.2.2.2.1,vi z73.2.2.2.2.2.2.2.1,vi z73.2.2.2.2.2.2.2.2.1,vi z73.2.2.2.2.2.2.2.2.2.1,vi z73.2.2.2.2.2.2.2.2.2.2.1,vi z73.2.2.2.2.2.2.2.2.2.2.2.1]]⟩,some ⟨.of 3,1,z73.2.2.2.2.2.2.2.2.2.2.2.2.map cInt⟩])).bind (Zu (fun z73=>
 (Zaj (⟨z73.1,(⟨(⟨z73.2.1,z73.2.2.1,z73.2.2.2.1⟩:Zw),z73.2.2.2.2.1,z73.2.2.2.2.2.1,z73.2.2.2.2.2.2.2.2.2.2.2.2,z73.2.2.2.2.2.2.1⟩:Zi),z73.2.2.2.2.2.2.2.1,z73.2.2.2.2.2.2.2.2.1,z73.2.2.2.2.2.2.2.2.2.1,(⟨z73.2.2.2.2.2.2.2.2.2.2.1,z73.2.2.2.2.2.2.2.2.2.2.2.1⟩:Zg)⟩:YAct)).bind fun y74=>
 cond (!y74)
 (some ((⟨0,(⟨(⟨0,0,⟨#[]⟩⟩:Zw),⟨#[]⟩,0,[],0⟩:Zi),0,0,0,(⟨0,0⟩:Zg)⟩:YAct),false))
 ((ZF (⟨z73.1,(⟨(⟨z73.2.1,z73.2.2.1,z73.2.2.2.1⟩:Zw),z73.2.2.2.2.1,z73.2.2.2.2.2.1,z73.2.2.2.2.2.2.2.2.2.2.2.2,z73.2.2.2.2.2.2.1⟩:Zi),z73.2.2.2.2.2.2.2.1,z73.2.2.2.2.2.2.2.2.1,z73.2.2.2.2.2.2.2.2.2.1,(⟨z73.2.2.2.2.2.2.2.2.2.2.1,z73.2.2.2.2.2.2.2.2.2.2.2.1⟩:Zg)⟩:YAct)).bind fun y75=>
 cond (!decide (y75=s))
 (some ((⟨0,(⟨(⟨0,0,⟨#[]⟩⟩:Zw),⟨#[]⟩,0,[],0⟩:Zi),0,0,0,(⟨0,0⟩:Zg)⟩:YAct),false))
 (some ((⟨z73.1,(⟨(⟨z73.2.1,z73.2.2.1,z73.2.2.2.1⟩:Zw),z73.2.2.2.2.1,z73.2.2.2.2.2.1,z73.2.2.2.2.2.2.2.2.2.2.2.2,z73.2.2.2.2.2.2.1⟩:Zi),z73.2.2.2.2.2.2.2.1,z73.2.2.2.2.2.2.2.2.1,z73.2.2.2.2.2.2.2.2.2.1,(⟨z73.2.2.2.2.2.2.2.2.2.2.1,z73.2.2.2.2.2.2.2.2.2.2.2.1⟩:Zg)⟩:YAct),true)))) (fun r=>nomatch r))) (fun r=>nomatch r))
instance (s:ByteArray):CT Tryz.prog (Zau s):=⟨6,[vs s],[],fun r=>.tu [.ag [vi r.1.kind,vi r.1.parcel.label.service,vi r.1.parcel.label.serial,vs r.1.parcel.label.to_,vs r.1.parcel.from_,vi r.1.parcel.weight,.ms 0,vi r.1.parcel.value,vi r.1.order,vi r.1.amount,vi r.1.until_,vi r.1.trip.leg,vi r.1.trip.day],vb r.2],fun r=>[some ⟨.of 3,1,r.1.parcel.sides.map cInt⟩],fun H=>by replace H:=H0 H; unfold Zau at H; exact Zd Tryz.func6 rfl Tryz.ntmps6 Tryz.results6 fun Q hQ hQn=>wk3⟩
end Go.Proofs.YtkfbakhnpfmfmaaGreatDoor
