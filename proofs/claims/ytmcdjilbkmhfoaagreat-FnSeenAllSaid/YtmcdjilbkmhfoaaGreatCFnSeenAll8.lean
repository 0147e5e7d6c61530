/- A part of the proof of the statement in the last file of this claim: texts on the language of the program and on its functions. No condition. -/
import Derived.Test.YtmcdjilbkmhfoaaGreatCFnSeenAll7
import Derived.Test.YtmcdjilbkmhfoaaGreatCFnSeenAll5
import Derived.Test.YtmcdjilbkmhfoaaGreatCFnSeenAll4
import Derived.Test.YtmcdjilbkmhfoaaGreatCFnSeenAll6
namespace Go.Proofs.YtmcdjilbkmhfoaaGreat
set_option maxRecDepth 10000
open Go.RowKit Go.Lib Go.Sort
set_option linter.unusedVariables false
set_option linter.unusedSimpArgs false
set_option maxRecDepth 100000
set_option maxHeartbeats 4000000
noncomputable def bkT:TypeInfo:=(Tryz.prog.info? 37).get (by kernel_rfl)
noncomputable def bkE:TypeInfo:=(Tryz.prog.info? 135).get (by kernel_rfl)
theorem bkK (n:Nat) (h2:2≤n):Lib.swapperK n bkE 25=9:=by
 have a:bkE.hasPointers=false:=by kernel_rfl
 have b:bkE.bytes=32:=by kernel_rfl
 have c:(n == 0)=false:=by simp; omega
 have d:(n == 1)=false:=by simp; omega
 simp [Lib.swapperK,a,b,c,d]
theorem ZqM (w:World) (os:Array Obj):Up w (grow w os):=⟨rfl,rfl,rfl,by rw [size_grow]; omega,fun b hb=>heap_grow_old w os hb⟩
theorem Zvl {B Bx:Nat} {v:Value} {xs:List Zc} {w:World} {O:Nat→Prop} (ho:Own w B 135 v xs) (hx:w.heap[Bx]?=some (.cells #[v] 37 (0,0))) (hn:xs.length≤1048576) (ht:Tab w O) (hO:∀ b,B≤b→O b):
 Calls Tryz.prog 200 #[.iface 37 v,.func (.func 201) #[] #[.pointer (some ⟨Bx,0,none⟩)]] w fun e w'=>e=.returned (.tuple #[])∧∃ ys,ys.Perm xs∧ys.Pairwise (fun a b=>befB b a=false)∧Own w' B 135 v ys∧UpO (fun b=>B≤b∧b≠Bx) w w':=by
 by_cases h2:2≤xs.length
 case neg=>
  obtain ⟨A,c,rfl,_,_⟩:=ho.form
  have hR:=Tryz.laysGt8
  have key : ∀ f, Tryz.prog.funcs.findIdx? (·.name == "internal/reflectlite" ++ ".Swapper$" ++ toString (Lib.swapperK xs.length bkE 25)) = some f → Calls Tryz.prog 200 #[.iface 37 (.slice A xs.length c), .func (.func 201) #[] #[.pointer (some ⟨Bx, 0, none⟩)]] w fun e w' => e = .returned (.tuple #[]) ∧ ∃ os, w' = grow w os := fun f hf =>
   Any.sort_SliceStable_tiny Tryz.laysGt8 37 135 bkT bkE (by kernel_rfl) (by kernel_rfl) (by kernel_rfl) (by kernel_rfl) 25 (fun _=>by kernel_rfl) A xs.length c (by omega) f hf _ _ _ w
  have key2 : ∃ f, Tryz.prog.funcs.findIdx? (·.name == "internal/reflectlite" ++ ".Swapper$" ++ toString (Lib.swapperK xs.length bkE 25)) = some f := by
   rcases Nat.lt_or_ge 0 xs.length with h | h
   ·rw [show xs.length=1 by omega]
    exact ⟨260,by kernel_rfl⟩
   ·rw [show xs.length=0 by omega]
    exact ⟨259,by kernel_rfl⟩
  obtain ⟨f,hf⟩:=key2
  refine (key f hf).mono ?_
  rintro e w' ⟨rfl,os,rfl⟩
  have hu:=ZqM w os
  refine ⟨rfl,xs,List.Perm.refl _,?_,ho.up hu,⟨hu.os,hu.tape,hu.output,hu.size,fun b hb _=>hu.block b hb⟩⟩
  match xs,h2 with
  | [],_=>exact .nil
  | [x],_=>simp
  | x::y::l,h2=>simp at h2
 case pos=>
  obtain ⟨g,c,rfl,hB,hnc,hcm,hS⟩:=ZtK ho (by omega)
  have hrow:=hS.row
  have hne:Bx≠g:=by
   rintro rfl
   obtain ⟨cells,h1,_⟩:=hrow
   rw [hx] at h1
   simp at h1
  have hBx:Bx<w.heap.size:=(Array.getElem?_eq_some_iff.1 hx).1
  have hcell:w.cell? ⟨Bx,0,none⟩=some (.slice (some ⟨g,0,none⟩) xs.length c):=by rw [cell_of_row w Bx 0 _ _ (0,0) hx]; rfl
  have hlen:xs.length<1152921504606846976:=by omega
  have hB':sliceBound Tryz.prog 135 bkE 25 (some ⟨g,0,none⟩) xs.length c=#[.slice (some ⟨g,0,none⟩) xs.length c,typeHandle Tryz.prog 135]:=by
   unfold sliceBound; rw [if_neg (swapperK_gt _ _ _ h2)]
  have hsw:SwapSwapsK Tryz.prog 267 #[.slice (some ⟨g,0,none⟩) xs.length c,typeHandle Tryz.prog 135] (Enc.cells (α:=Zc)) 4 g 0 xs.length:=
   swapSwapsK_of_literal false 267 (fun args W=>run_callFunc_extern Tryz.func267 (by kernel_rfl) (by kernel_rfl) (by kernel_rfl) (e:=Extern.ReflectliteSwapper.swap false) (by kernel_rfl) args W) 135 bkE (by kernel_rfl) (Enc.cells (α:=Zc)) 4 (fun _=>rfl) (by kernel_rfl) (fun _=>by kernel_rfl) Enc.one g 0 xs.length c
  have hless:=Zux (n:=xs.length) hcell hBx hne hnc hcm ht (hO g hB)
  refine Any.sort_SliceStable_of_stable Tryz.laysGt8 37 135 bkT bkE (by kernel_rfl) (by kernel_rfl) (by kernel_rfl) (by kernel_rfl) 25 (fun _=>by kernel_rfl) (some ⟨g,0,none⟩) xs.length c (by omega) 267 (by rw [bkK _ h2]; kernel_rfl) (.func 201) #[] #[.pointer (some ⟨Bx,0,none⟩)] w (fun w'=>∃ ys,ys.Perm xs∧ys.Pairwise (fun a b=>befB b a=false)∧Own w' B 135 (.slice (some ⟨g,0,none⟩) xs.length c) ys∧UpO (fun b=>B≤b∧b≠Bx) w w') ?_
  rw [hB']
  have hu:Up w (stableWorld Tryz.prog Tryz.laysGt8_ren 37 (some ⟨g,0,none⟩) xs.length c w):=by unfold stableWorld; exact Up.al _ (Up.al _ (Up.rfl' w))
  generalize stableWorld Tryz.prog Tryz.laysGt8_ren 37 (some ⟨g,0,none⟩) xs.length c w=w1 at hu ⊢
  have hS1:=hS.more hu
  have hst:=Zo2 (enc:=Enc.cells (α:=Zc)) (k:=4) (fun _=>rfl) 201 #[.pointer (some ⟨Bx,0,none⟩)] 267 #[.slice (some ⟨g,0,none⟩) xs.length c,typeHandle Tryz.prog 135] xs.length hlen hsw ZlJ (enters_of Tryz.func201 (by kernel_rfl) rfl) (d:=xs.toArray) (by simp) hS1.self (hless.on hS1)
  refine hst.mono ?_
  rintro e w' ⟨rfl,e,hE1,hE2,hE3⟩
  have hE:=hS1.trans hE1
  have hsz:e.size=xs.length:=by rw [hE2.1]; simp
  have hown:=Zo3 (B:=B) (c:=c) hE hB (by omega) hcm
  rw [hsz] at hown
  refine ⟨rfl,e.toList,?_,?_,hown,⟨hE.up.os,hE.up.tape,hE.up.output,hE.up.size,fun b hb hn=>hE.up.block b hb fun h=>hn ⟨h ▸ hB,fun h'=>hne (h' ▸ h.symm ▸ rfl)⟩⟩⟩
  ·have hp:=hE2.2.2
   rw [← hsz] at hp
   rw [Array.extract_size] at hp
   rw [hsz] at hp
   have h3:xs.toArray.extract 0 xs.length=xs.toArray:=by simp
   rw [h3] at hp
   simpa using hp
  ·rw [List.pairwise_iff_getElem]
   intro i j hi hj hij
   have:=hE3 i j (by omega) hij (by rw [Array.length_toList] at hj; omega)
   rw [getElem!_pos e j (by rw [Array.length_toList] at hj; exact hj),getElem!_pos e i (by rw [Array.length_toList] at hi; exact hi)] at this
   simpa using this
end Go.Proofs.YtmcdjilbkmhfoaaGreat
namespace Go.Proofs.YtmcdjilbkmhfoaaGreat
set_option maxRecDepth 10000
open Go.RowKit Go.Lib
set_option linter.unusedVariables false
set_option linter.unusedSimpArgs false
@[go_sem] theorem fnSC:isFn Tryz.prog 254:=⟨_,Tryz.func254,rfl,by kernel_rfl⟩
def Zc7 (a b:ByteArray):Option Int:=some (Lib.compareBytes a.data.toList b.data.toList)
theorem Zh9 (a b:ByteArray) {r:Int} (H:Zc7 a b=some r):Zdo Tryz.prog 254 [vs a,vs b] [] (vi r) []:=by
 unfold Zc7 at H
 obtain rfl:=Option.some.inj H
 refine Zua rfl fun S β w args hS hl ha=>?_
 obtain ⟨x0,q0,r0⟩:=ha 0 _ rfl
 obtain ⟨x1,q1,r1⟩:=ha 1 _ rfl
 obtain rfl:=ZkW r0
 obtain rfl:=ZkW r1
 have hl2:args.size=2:=hl
 have hargs:args=#[Value.string a,Value.string b]:=by
  apply Array.ext (by rw [hl2]; rfl)
  intro i h2 h3
  have a0:=(Array.getElem?_eq_some_iff.1 q0).2
  have a1:=(Array.getElem?_eq_some_iff.1 q1).2
  match i,h2 with
  | 0,_=>simpa using a0
  | 1,_=>simpa using a1
  | i+2,h2=>omega
 rw [hargs]
 refine (Tryz.strings_Compare a b w).mono ?_
 rintro e w' ⟨rfl,rfl⟩
 exact ⟨rfl,Up.rfl' _⟩
instance (a b:ByteArray):CT Tryz.prog (Zc7 a b):=⟨254,[vs a,vs b],[],fun r=>vi r,fun r=>[],Zh9 a b⟩
def lexB (a b:ByteArray):Bool:=decide (Lib.compareBytes a.data.toList b.data.toList<0)
theorem Zqo:∀ l:List UInt8,Lib.compareBytes l l=0
 | []=>rfl
 | a::l=>by
  unfold Lib.compareBytes
  rw [if_neg (by simp),if_neg (by simp)]
  exact Zqo l
theorem Zlb:∀ {a b:List UInt8},Lib.compareBytes a b=0→a=b
 | [],[],_=>rfl
 | [],_::_,h=>by simp [Lib.compareBytes] at h
 | _::_,[],h=>by simp [Lib.compareBytes] at h
 | a::as_,b::bs,h=>by
  unfold Lib.compareBytes at h
  split at h
  ·simp at h
  ·rename_i h1
   split at h
   ·simp at h
   ·rename_i h2
    have:a=b:=by
     have h1':=UInt8.not_lt.1 h1
     have h2':=UInt8.not_lt.1 h2
     exact UInt8.le_antisymm h2' h1'
    rw [this,Zlb h]
theorem ZjC:∀ a b:List UInt8,Lib.compareBytes a b=- Lib.compareBytes b a
 | [],[]=>by simp [Lib.compareBytes]
 | [],_::_=>by simp [Lib.compareBytes]
 | _::_,[]=>by simp [Lib.compareBytes]
 | a::as_,b::bs=>by
  unfold Lib.compareBytes
  by_cases h1:a<b
  ·rw [if_pos h1,if_neg (fun h=>by have:=UInt8.lt_asymm h1; exact this h),if_pos h1]
  ·rw [if_neg h1]
   by_cases h2:b<a
   ·rw [if_pos h2,if_pos h2]; rfl
   ·rw [if_neg h2,if_neg h2,if_neg h1]
    exact ZjC as_ bs
theorem Zla:∀ {a b c:List UInt8},Lib.compareBytes a b<0→Lib.compareBytes b c<0→Lib.compareBytes a c<0
 | [],_,[],h1,h2=>by
  rename_i b
  cases b with
  | nil=>simp [Lib.compareBytes] at h1
  | cons x xs=>simp [Lib.compareBytes] at h2
 | [],_,_::_,_,_=>by simp [Lib.compareBytes]
 | _::_,[],_,h1,_=>by simp [Lib.compareBytes] at h1
 | _::_,_::_,[],_,h2=>by simp [Lib.compareBytes] at h2
 | a::as_,b::bs,c::cs,h1,h2=>by
  unfold Lib.compareBytes at h1 h2 ⊢
  by_cases a1:a<b
  ·by_cases b1:b<c
   ·rw [if_pos (UInt8.lt_trans a1 b1)]; decide
   ·rw [if_neg b1] at h2
    by_cases b2:c<b
    ·rw [if_pos b2] at h2; exact absurd h2 (by decide)
    ·have:b=c:=UInt8.le_antisymm (UInt8.not_lt.1 b2) (UInt8.not_lt.1 b1)
     rw [if_pos (this ▸ a1)]; decide
  ·rw [if_neg a1] at h1
   by_cases a2:b<a
   ·rw [if_pos a2] at h1; exact absurd h1 (by decide)
   ·rw [if_neg a2] at h1
    have hab:a=b:=UInt8.le_antisymm (UInt8.not_lt.1 a2) (UInt8.not_lt.1 a1)
    subst hab
    by_cases b1:a<c
    ·rw [if_pos b1]; decide
    ·rw [if_neg b1] at h2 ⊢
     by_cases b2:c<a
     ·rw [if_pos b2] at h2; exact absurd h2 (by decide)
     ·rw [if_neg b2] at h2 ⊢
      exact Zla h1 h2
end Go.Proofs.YtmcdjilbkmhfoaaGreat
set_option linter.unusedVariables false
namespace Go.Proofs.YtmcdjilbkmhfoaaGreat
set_option maxRecDepth 10000
open Go.RowKit
@[ext] structure Zeo where
 place:ByteArray
 at_:Int
 deriving DecidableEq
abbrev ZvG (x:Zeo):List PV:=[vs x.place,vi x.at_]
@[ext] structure Zaa where
 n:Za
 at_:Int
 known:Bool
 place:ByteArray
 ride:Ze
 rides:Bool
 free:Bool
 from_:Zeo
 to_:Zeo
 more:Bool
abbrev ZkI (x:Zaa):List PV:=[.sl (x.n.legs.map cLeg),.sl (x.n.off.map cInt),vi x.n.change,vi x.at_,vb x.known,vs x.place,vi x.ride.leg,vi x.ride.day,vb x.rides,vb x.free,vs x.from_.place,vi x.from_.at_,vs x.to_.place,vi x.to_.at_,vb x.more]
end Go.Proofs.YtmcdjilbkmhfoaaGreat
namespace Go.Proofs.YtmcdjilbkmhfoaaGreat
set_option maxRecDepth 10000
open Go.RowKit
set_option linter.unusedVariables false
set_option maxHeartbeats 16000000
def Zbm (a:Zj) (b:Zj):Option Int:=
 (ZZ a.at_ b.at_).bind fun y1=>
 (ZZ a.thing b.thing).bind fun y2=>
 (ZZ a.kind b.kind).bind fun y3=>
 (ZZ a.trip.day b.trip.day).bind fun y4=>
 (ZZ a.trip.leg b.trip.leg).bind fun y5=>
 (Zc7 a.place b.place).bind fun y6=>
 (Zdb ([y1,y2,y3,y4,y5,y6])).bind fun y7=>
 some y7
instance (a:Zj) (b:Zj):CT Tryz.prog (Zbm a b):=⟨221,[.ag (ZF a),.ag (ZF b)],[],fun r=>vi r,fun r=>[],fun H=>by replace H:=H0 H; unfold Zbm at H; exact Zh Tryz.func221 rfl Tryz.ntmps221 Tryz.results221 fun Q hQ hQn=>wk3⟩
def ZdK (i:Int) (j:Int) (c0_:List Zj):Option Bool:=
 (getI c0_ i).bind fun y1=>
 (getI c0_ j).bind fun y2=>
 (Zbm y1 y2).bind fun y3=>
 some (decide (y3<0))
instance (i:Int) (j:Int) (c0_:List Zj):CT Tryz.prog (ZdK i j c0_):=⟨253,[vi i,vi j,.rp [.sl (c0_.map ZF)]],[],fun r=>vb r,fun r=>[],fun H=>by replace H:=H0 H; unfold ZdK at H; exact Zh Tryz.func253 rfl Tryz.ntmps253 Tryz.results253 fun Q hQ hQn=>wk3⟩
end Go.Proofs.YtmcdjilbkmhfoaaGreat
namespace Go.Proofs.YtmcdjilbkmhfoaaGreat
set_option maxRecDepth 10000
open Go.RowKit Go.Lib Go.Sort
set_option linter.unusedVariables false
set_option linter.unusedSimpArgs false
set_option maxRecDepth 100000
set_option maxHeartbeats 4000000
instance:Enc Zj where
 cells x:=[I x.thing,I x.at_,I x.kind,.string x.place,I x.trip.leg,I x.trip.day]
 k:=6
 len _:=rfl
 pos:=by decide
 one:=by simp [Value.oneCell',I]
instance:ZhM ZF (id:Zj→Zj):=⟨fun x=>rfl,fun x j p h=>by
 match j with
 | 0=>obtain rfl:_=p:=Option.some.inj h
      exact ⟨_,rfl,rfl⟩
 | 1=>obtain rfl:_=p:=Option.some.inj h
      exact ⟨_,rfl,rfl⟩
 | 2=>obtain rfl:_=p:=Option.some.inj h
      exact ⟨_,rfl,rfl⟩
 | 3=>obtain rfl:_=p:=Option.some.inj h
      exact ⟨_,rfl,rfl⟩
 | 4=>obtain rfl:_=p:=Option.some.inj h
      exact ⟨_,rfl,rfl⟩
 | 5=>obtain rfl:_=p:=Option.some.inj h
      exact ⟨_,rfl,rfl⟩
 | j+6=>simp [ZF] at h⟩
instance:Inhabited Zj:=⟨⟨0,0,0,⟨#[]⟩,⟨0,0⟩⟩⟩
abbrev cmpS (a b:ByteArray):Int:=Lib.compareBytes a.data.toList b.data.toList
def scLt (a b:Zj):Prop:=a.at_<b.at_∨(a.at_=b.at_∧(a.thing<b.thing∨(a.thing=b.thing∧(a.kind<b.kind∨(a.kind=b.kind∧(a.trip.day<b.trip.day∨(a.trip.day=b.trip.day∧(a.trip.leg<b.trip.leg∨(a.trip.leg=b.trip.leg∧cmpS a.place b.place<0)))))))))
instance (a b:Zj):Decidable (scLt a b):=by unfold scLt; infer_instance
def scB (a b:Zj):Bool:=decide (scLt a b)
theorem Zkg (a b:Zj):scB a b=true↔scLt a b:=by unfold scB; exact decide_eq_true_iff
theorem Zkh (a b:Zj):scB a b=false↔¬ scLt a b:=by unfold scB; exact decide_eq_false_iff_not
theorem ZmU:SWO scB:=by
 refine ⟨fun x=>(Zkh _ _).2 ?_,fun x y z h1 h2=>(Zkg _ _).2 ?_,fun x y z h1 h2=>(Zkh _ _).2 ?_⟩
 ·have:=Zqo x.place.data.toList
  unfold scLt cmpS
  omega
 ·have h1:=(Zkg _ _).1 h1
  have h2:=(Zkg _ _).1 h2
  have h3:cmpS x.place y.place<0→cmpS y.place z.place<0→cmpS x.place z.place<0:=Zla
  unfold scLt at *
  generalize cmpS x.place y.place=s1 at *
  generalize cmpS y.place z.place=s2 at *
  generalize cmpS x.place z.place=s3 at *
  omega
 ·have h1:=(Zkh _ _).1 h1
  have h2:=(Zkh _ _).1 h2
  have e1:cmpS x.place y.place=- cmpS y.place x.place:=ZjC _ _
  have e2:cmpS y.place z.place=- cmpS z.place y.place:=ZjC _ _
  have e3:cmpS x.place z.place<0→¬ cmpS x.place y.place<0→¬ cmpS y.place z.place<0→False:=fun h a1 a2=>by
   rcases Int.lt_or_eq_of_le (show 0≤cmpS x.place y.place by omega) with g | g
   ·rcases Int.lt_or_eq_of_le (show 0≤cmpS y.place z.place by omega) with g2 | g2
    ·have:cmpS z.place x.place<0:=Zla (show cmpS z.place y.place<0 by omega) (show cmpS y.place x.place<0 by omega)
     have e4:cmpS x.place z.place=- cmpS z.place x.place:=ZjC _ _
     omega
    ·have:y.place.data.toList=z.place.data.toList:=Zlb g2.symm
     unfold cmpS at g h
     rw [← this] at h
     omega
   ·have:x.place.data.toList=y.place.data.toList:=Zlb g.symm
    unfold cmpS at h a2
    rw [this] at h
    exact a2 h
  have e5:¬ (cmpS x.place z.place<0∧0≤cmpS x.place y.place∧0≤cmpS y.place z.place):=fun ⟨a,b,c⟩=>e3 a (by omega) (by omega)
  clear e1 e2 e3
  unfold scLt at *
  generalize cmpS x.place y.place=s1 at *
  generalize cmpS y.place z.place=s2 at *
  generalize cmpS x.place z.place=s3 at *
  omega
theorem ZvR (a b c d e f:Int):Zdb [a,b,c,d,e,f]=some (if a≠0 then a else if b≠0 then b else if c≠0 then c else if d≠0 then d else if e≠0 then e else f):=by
 have w:∀ i:Nat,i<100→w64 ((i:Int)+1)=((i+1:Nat):Int):=fun i h=>by rw [Zp (by omega)]; omega
 have step:∀ (l:List Int) (i:Nat) (x:Int) (N:Nat),i<100→l[i]?=some x→Zl (ZH l) (N+1) (i:Int)=if x≠0 then some (.inr x) else Zl (ZH l) N ((i+1:Nat):Int):=fun l i x N hi hx=>by
  have hlt:=(List.getElem?_eq_some_iff.1 hx).1
  have hg:getI l (i:Int)=some x:=by rw [Zq]; exact hx
  have hb:ZH l (i:Int)=some (if x≠0 then .inr (.inr x) else .inl ((i+1:Nat):Int)):=by
   unfold ZH
   rw [decide_eq_true (show (i:Int)<(l.length:Int) by omega),cond_true,hg,Option.bind_some,w i hi]
   by_cases h0:x=0
   ·rw [decide_eq_true h0,if_neg (by simpa using h0)]; rfl
   ·rw [decide_eq_false h0,if_pos h0]; rfl
  rw [show Zl (ZH l) (N+1) (i:Int)=(ZH l (i:Int)).bind (ZX (Zl (ZH l) N) some) from rfl,hb]
  by_cases h0:x=0
  ·rw [if_neg (by simpa using h0),if_neg (by simpa using h0)]; rfl
  ·rw [if_pos h0,if_pos h0]; rfl
 have fin:∀ (l:List Int) (N:Nat),Zl (ZH l) (N+1) (l.length:Int)=some (.inl ()):=fun l N=>by
  have hb:ZH l (l.length:Int)=some (.inr (.inl ())):=by unfold ZH; simp
  rw [show Zl (ZH l) (N+1) (l.length:Int)=(ZH l (l.length:Int)).bind (ZX (Zl (ZH l) N) some) from rfl,hb]; rfl
 obtain ⟨k,hk⟩:∃ k,NN=k+1+1+1+1+1+1+1:=⟨NN-7,by unfold NN; omega⟩
 have key:Zl (ZH [a,b,c,d,e,f]) NN ((0:Nat):Int)=if a≠0 then some (.inr a) else if b≠0 then some (.inr b) else if c≠0 then some (.inr c) else if d≠0 then some (.inr d) else if e≠0 then some (.inr e) else if f≠0 then some (.inr f) else some (.inl ()):=by
  rw [hk,step _ 0 a _ (by omega) rfl,step _ 1 b _ (by omega) rfl,step _ 2 c _ (by omega) rfl,step _ 3 d _ (by omega) rfl,step _ 4 e _ (by omega) rfl,step _ 5 f _ (by omega) rfl,show ((5+1:Nat):Int)=(([a,b,c,d,e,f]:List Int).length:Int) from rfl,fin [a,b,c,d,e,f] k]
 unfold Zdb
 rw [show (0:Int)=((0:Nat):Int) from rfl,key]
 by_cases ha:a=0
 ·by_cases hb:b=0
  ·by_cases hc:c=0
   ·by_cases hd:d=0
    ·by_cases he:e=0
     ·by_cases hf:f=0
      ·simp [ha,hb,hc,hd,he,hf,ZX]
      ·simp [ha,hb,hc,hd,he,hf,ZX]
     ·simp [ha,hb,hc,hd,he,ZX]
    ·simp [ha,hb,hc,hd,ZX]
   ·simp [ha,hb,hc,ZX]
  ·simp [ha,hb,ZX]
 ·simp [ha,ZX]
theorem cmp3 (a b:Int):(a<b∧cmpI a b=-1)∨(a=b∧cmpI a b=0)∨(b<a∧cmpI a b=1):=by
 unfold cmpI
 rcases Int.lt_trichotomy a b with h | h | h
 ·exact .inl ⟨h,if_pos h⟩
 ·exact .inr (.inl ⟨h,by rw [if_neg (by omega),if_neg (by omega)]⟩)
 ·exact .inr (.inr ⟨h,by rw [if_neg (by omega),if_pos h]⟩)
theorem Zim (a b:Zj):∃ v,Zbm a b=some v∧(v<0↔scLt a b):=by
 unfold Zbm Zc7
 simp only [Ztz,Option.bind_some,ZvR]
 refine ⟨_,rfl,?_⟩
 unfold scLt cmpS
 generalize Lib.compareBytes a.place.data.toList b.place.data.toList=s
 rcases cmp3 a.at_ b.at_ with ⟨h1,e1⟩ | ⟨h1,e1⟩ | ⟨h1,e1⟩
 ·rw [e1,if_pos (by decide)]; omega
 ·rw [e1,if_neg (by decide)]
  rcases cmp3 a.thing b.thing with ⟨h2,e2⟩ | ⟨h2,e2⟩ | ⟨h2,e2⟩
  ·rw [e2,if_pos (by decide)]; omega
  ·rw [e2,if_neg (by decide)]
   rcases cmp3 a.kind b.kind with ⟨h3,e3⟩ | ⟨h3,e3⟩ | ⟨h3,e3⟩
   ·rw [e3,if_pos (by decide)]; omega
   ·rw [e3,if_neg (by decide)]
    rcases cmp3 a.trip.day b.trip.day with ⟨h4,e4⟩ | ⟨h4,e4⟩ | ⟨h4,e4⟩
    ·rw [e4,if_pos (by decide)]; omega
    ·rw [e4,if_neg (by decide)]
     rcases cmp3 a.trip.leg b.trip.leg with ⟨h5,e5⟩ | ⟨h5,e5⟩ | ⟨h5,e5⟩
     ·rw [e5,if_pos (by decide)]; omega
     ·rw [e5,if_neg (by decide)]; omega
     ·rw [e5,if_pos (by decide)]; omega
    ·rw [e4,if_pos (by decide)]; omega
   ·rw [e3,if_pos (by decide)]; omega
  ·rw [e2,if_pos (by decide)]; omega
 ·rw [e1,if_pos (by decide)]; omega
theorem Zuy {g c n Bx:Nat} {w0:World} {O:Nat→Prop} (hx:w0.cell? ⟨Bx,0,none⟩=some (.slice (some ⟨g,0,none⟩) n c)) (hBx:Bx<w0.heap.size) (hne:Bx≠g) (hnc:n≤c) (hm:c≤maxLen) (ht:Tab w0 O) (hO:O g):
 Zhw 253 #[.pointer (some ⟨Bx,0,none⟩)] (Enc.cells (α:=Zj)) 6 scB g 130 (c*6) n w0:=by
 intro d W hS hd i j hi hj
 have hn:d.toList.length=n:=by rw [Array.length_toList,hd]
 have gi:getI d.toList (i:Int)=some d[i]!:=by rw [Zq,Array.getElem?_toList,getElem!_pos d i (by omega)]; exact Array.getElem?_eq_getElem _
 have gj:getI d.toList (j:Int)=some d[j]!:=by rw [Zq,Array.getElem?_toList,getElem!_pos d j (by omega)]; exact Array.getElem?_eq_getElem _
 obtain ⟨v,hv,hvb⟩:=Zim d[i]! d[j]!
 have H:ZdK (i:Int) (j:Int) d.toList=some (scB d[i]! d[j]!):=by
  unfold ZdK
  rw [gi,Option.bind_some,gj,Option.bind_some,hv,Option.bind_some]
  unfold scB
  by_cases hb:scLt d[i]! d[j]!
  ·rw [decide_eq_true hb,decide_eq_true (hvb.2 hb)]
  ·rw [decide_eq_false hb,decide_eq_false fun h=>hb (hvb.1 h)]
 have hC:=CT.ok (P:=Tryz.prog) H
 simp only [CT.f,CT.args,CT.m0,CT.res,CT.mem] at hC
 have hcell:W.cell? ⟨Bx,0,none⟩=some (.slice (some ⟨g,0,none⟩) n c):=(hS.oth hBx hne).trans hx
 have hrd:Rd W W.heap.size (some ⟨g,0,none⟩) (d.toList.map id):=by
  have:=(Zo3 (B:=g) hS (Nat.le_refl _) (by omega) hm).rd
  rw [List.map_id]
  exact this
 have hrs:=ZnM (c:=ZF) (id:Zj→Zj) hrd (n:=c) (by omega) hm
 rw [hn] at hrs
 refine (Zdo.valT hC (w:=W) (ZmV ht hS.up fun b _ h=>h ▸ hO) rfl fun idx p hp=>?_).mono ?_
 ·match idx with
  | 0=>obtain rfl:_=p:=Option.some.inj hp
       exact ⟨_,rfl,ZhI _ rfl⟩
  | 1=>obtain rfl:_=p:=Option.some.inj hp
       exact ⟨_,rfl,ZhI _ rfl⟩
  | 2=>obtain rfl:_=p:=Option.some.inj hp
       refine ⟨_,rfl,.c (.rp _ Bx 0 (fun _=>.slice (some ⟨g,0,none⟩) n c) (Nat.lt_of_lt_of_le hBx hS.up.size) (fun j p hp=>?_) (fun j p hp=>rfl) fun j p hp=>?_)⟩
       ·match j with
        | 0=>exact hcell
        | j+1=>simp at hp
       ·match j with
        | 0=>obtain rfl:_=p:=Option.some.inj hp
             exact hrs
        | j+1=>simp at hp
  | idx+3=>simp at hp
 ·rintro e w' ⟨rfl,hu⟩
  exact ⟨rfl,hu⟩
end Go.Proofs.YtmcdjilbkmhfoaaGreat
namespace Go.Proofs.YtmcdjilbkmhfoaaGreat
set_option maxRecDepth 10000
open Go.RowKit Go.Lib Go.Sort
set_option linter.unusedVariables false
set_option linter.unusedSimpArgs false
set_option maxRecDepth 100000
set_option maxHeartbeats 4000000
noncomputable def scT:TypeInfo:=(Tryz.prog.info? 39).get (by kernel_rfl)
noncomputable def scE:TypeInfo:=(Tryz.prog.info? 130).get (by kernel_rfl)
theorem scK (n:Nat) (h2:2≤n):Lib.swapperK n scE 25=9:=by
 have a:scE.hasPointers=true:=by kernel_rfl
 have b:scE.bytes=56:=by kernel_rfl
 have c:(n == 0)=false:=by simp; omega
 have d:(n == 1)=false:=by simp; omega
 simp [Lib.swapperK,a,b,c,d]
theorem Ztp {B Bx:Nat} {v:Value} {xs:List Zj} {w:World} {O:Nat→Prop} (ho:Own w B 130 v xs) (hx:w.heap[Bx]?=some (.cells #[v] 39 (0,0))) (hn:xs.length≤1048576) (ht:Tab w O) (hO:∀ b,B≤b→O b):
 Calls Tryz.prog 200 #[.iface 39 v,.func (.func 253) #[] #[.pointer (some ⟨Bx,0,none⟩)]] w fun e w'=>e=.returned (.tuple #[])∧∃ ys,ys.Perm xs∧ys.Pairwise (fun a b=>scB b a=false)∧Own w' B 130 v ys∧UpO (fun b=>B≤b∧b≠Bx) w w':=by
 by_cases h2:2≤xs.length
 case neg=>
  obtain ⟨A,c,rfl,_,_⟩:=ho.form
  have hR:=Tryz.laysGt8
  have key : ∀ f, Tryz.prog.funcs.findIdx? (·.name == "internal/reflectlite" ++ ".Swapper$" ++ toString (Lib.swapperK xs.length scE 25)) = some f → Calls Tryz.prog 200 #[.iface 39 (.slice A xs.length c), .func (.func 253) #[] #[.pointer (some ⟨Bx, 0, none⟩)]] w fun e w' => e = .returned (.tuple #[]) ∧ ∃ os, w' = grow w os := fun f hf =>
   Any.sort_SliceStable_tiny Tryz.laysGt8 39 130 scT scE (by kernel_rfl) (by kernel_rfl) (by kernel_rfl) (by kernel_rfl) 25 (fun _=>by kernel_rfl) A xs.length c (by omega) f hf _ _ _ w
  have key2 : ∃ f, Tryz.prog.funcs.findIdx? (·.name == "internal/reflectlite" ++ ".Swapper$" ++ toString (Lib.swapperK xs.length scE 25)) = some f := by
   rcases Nat.lt_or_ge 0 xs.length with h | h
   ·rw [show xs.length=1 by omega]
    exact ⟨260,by kernel_rfl⟩
   ·rw [show xs.length=0 by omega]
    exact ⟨259,by kernel_rfl⟩
  obtain ⟨f,hf⟩:=key2
  refine (key f hf).mono ?_
  rintro e w' ⟨rfl,os,rfl⟩
  have hu:=ZqM w os
  refine ⟨rfl,xs,List.Perm.refl _,?_,ho.up hu,⟨hu.os,hu.tape,hu.output,hu.size,fun b hb _=>hu.block b hb⟩⟩
  match xs,h2 with
  | [],_=>exact .nil
  | [x],_=>simp
  | x::y::l,h2=>simp at h2
 case pos=>
  obtain ⟨g,c,rfl,hB,hnc,hcm,hS⟩:=ZtK ho (by omega)
  have hrow:=hS.row
  have hne:Bx≠g:=by
   rintro rfl
   obtain ⟨cells,h1,_⟩:=hrow
   rw [hx] at h1
   simp at h1
  have hBx:Bx<w.heap.size:=(Array.getElem?_eq_some_iff.1 hx).1
  have hcell:w.cell? ⟨Bx,0,none⟩=some (.slice (some ⟨g,0,none⟩) xs.length c):=by rw [cell_of_row w Bx 0 _ _ (0,0) hx]; rfl
  have hlen:xs.length<1152921504606846976:=by omega
  have hB':sliceBound Tryz.prog 130 scE 25 (some ⟨g,0,none⟩) xs.length c=#[.slice (some ⟨g,0,none⟩) xs.length c,typeHandle Tryz.prog 130]:=by
   unfold sliceBound; rw [if_neg (swapperK_gt _ _ _ h2)]
  have hsw:SwapSwapsK Tryz.prog 267 #[.slice (some ⟨g,0,none⟩) xs.length c,typeHandle Tryz.prog 130] (Enc.cells (α:=Zj)) 6 g 0 xs.length:=
   swapSwapsK_of_literal false 267 (fun args W=>run_callFunc_extern Tryz.func267 (by kernel_rfl) (by kernel_rfl) (by kernel_rfl) (e:=Extern.ReflectliteSwapper.swap false) (by kernel_rfl) args W) 130 scE (by kernel_rfl) (Enc.cells (α:=Zj)) 6 (fun _=>rfl) (by kernel_rfl) (fun _=>by kernel_rfl) Enc.one g 0 xs.length c
  have hless:=Zuy (n:=xs.length) hcell hBx hne hnc hcm ht (hO g hB)
  refine Any.sort_SliceStable_of_stable Tryz.laysGt8 39 130 scT scE (by kernel_rfl) (by kernel_rfl) (by kernel_rfl) (by kernel_rfl) 25 (fun _=>by kernel_rfl) (some ⟨g,0,none⟩) xs.length c (by omega) 267 (by rw [scK _ h2]; kernel_rfl) (.func 253) #[] #[.pointer (some ⟨Bx,0,none⟩)] w (fun w'=>∃ ys,ys.Perm xs∧ys.Pairwise (fun a b=>scB b a=false)∧Own w' B 130 (.slice (some ⟨g,0,none⟩) xs.length c) ys∧UpO (fun b=>B≤b∧b≠Bx) w w') ?_
  rw [hB']
  have hu:Up w (stableWorld Tryz.prog Tryz.laysGt8_ren 39 (some ⟨g,0,none⟩) xs.length c w):=by unfold stableWorld; exact Up.al _ (Up.al _ (Up.rfl' w))
  generalize stableWorld Tryz.prog Tryz.laysGt8_ren 39 (some ⟨g,0,none⟩) xs.length c w=w1 at hu ⊢
  have hS1:=hS.more hu
  have hst:=Zo2 (enc:=Enc.cells (α:=Zj)) (k:=6) (fun _=>rfl) 253 #[.pointer (some ⟨Bx,0,none⟩)] 267 #[.slice (some ⟨g,0,none⟩) xs.length c,typeHandle Tryz.prog 130] xs.length hlen hsw ZmU (enters_of Tryz.func253 (by kernel_rfl) rfl) (d:=xs.toArray) (by simp) hS1.self (hless.on hS1)
  refine hst.mono ?_
  rintro e w' ⟨rfl,e,hE1,hE2,hE3⟩
  have hE:=hS1.trans hE1
  have hsz:e.size=xs.length:=by rw [hE2.1]; simp
  have hown:=Zo3 (B:=B) (c:=c) hE hB (by omega) hcm
  rw [hsz] at hown
  refine ⟨rfl,e.toList,?_,?_,hown,⟨hE.up.os,hE.up.tape,hE.up.output,hE.up.size,fun b hb hn=>hE.up.block b hb fun h=>hn ⟨h ▸ hB,fun h'=>hne (h' ▸ h.symm ▸ rfl)⟩⟩⟩
  ·have hp:=hE2.2.2
   rw [← hsz] at hp
   rw [Array.extract_size] at hp
   rw [hsz] at hp
   have h3:xs.toArray.extract 0 xs.length=xs.toArray:=by simp
   rw [h3] at hp
   simpa using hp
  ·rw [List.pairwise_iff_getElem]
   intro i j hi hj hij
   have:=hE3 i j (by omega) hij (by rw [Array.length_toList] at hj; omega)
   rw [getElem!_pos e j (by rw [Array.length_toList] at hj; exact hj),getElem!_pos e i (by rw [Array.length_toList] at hi; exact hi)] at this
   simpa using this
end Go.Proofs.YtmcdjilbkmhfoaaGreat
namespace Go.Proofs.YtmcdjilbkmhfoaaGreat
set_option maxRecDepth 10000
open Go.RowKit
set_option linter.unusedVariables false
set_option maxHeartbeats 16000000
def Zbg (c:Zx):Option (Int × Zx):=
 cond (decide (c.i<(c.b.length:Int)))
 ((getI c.b c.i).bind fun y1=>
 some ((IntKind.i64.wrap (BitVec.ofInt IntKind.i64.bits (w64 ((IntKind.i64.wrap (BitVec.ofInt IntKind.i64.bits (IntKind.i64.wrap (BitVec.ofInt IntKind.i64.bits (Int.fdiv (w64 ((w64 (c.h*6364136223846793005))+1442695040888963407)) (2 ^ (min (Int.toNat 35) IntKind.i64.bits))) ^^^ BitVec.ofInt IntKind.i64.bits (Int.fdiv (w64 ((w64 (c.h*6364136223846793005))+1442695040888963407)) (2 ^ (min (Int.toNat 45) IntKind.i64.bits)))).toNat) &&& BitVec.ofInt IntKind.i64.bits 255).toNat)+(IntKind.i64.wrap y1.v))) &&& BitVec.ofInt IntKind.i64.bits 255).toNat),(⟨c.b,(w64 (c.i+1)),(w64 ((w64 (c.h*6364136223846793005))+1442695040888963407))⟩:Zx)))
 (some ((IntKind.i64.wrap (BitVec.ofInt IntKind.i64.bits (IntKind.i64.wrap (BitVec.ofInt IntKind.i64.bits (Int.fdiv (w64 ((w64 (c.h*6364136223846793005))+1442695040888963407)) (2 ^ (min (Int.toNat 35) IntKind.i64.bits))) ^^^ BitVec.ofInt IntKind.i64.bits (Int.fdiv (w64 ((w64 (c.h*6364136223846793005))+1442695040888963407)) (2 ^ (min (Int.toNat 45) IntKind.i64.bits)))).toNat) &&& BitVec.ofInt IntKind.i64.bits 255).toNat),(⟨c.b,c.i,(w64 ((w64 (c.h*6364136223846793005))+1442695040888963407))⟩:Zx)))
instance (c:Zx):CT Tryz.prog (Zbg c):=⟨180,[.be 0 0 0],[some ⟨187,3,[[.sl (c.b.map cB8),vi c.i,vi c.h]]⟩],fun r=>vi r.1,fun r=>[some ⟨187,3,[[.sl (r.2.b.map cB8),vi r.2.i,vi r.2.h]]⟩],fun H=>by replace H:=H0 H; unfold Zbg at H; exact Zh Tryz.func180 rfl Tryz.ntmps180 Tryz.results180 fun Q hQ hQn=>wk3⟩
def Zk (c:Zx) (n:Int):Option (Int × Zx):=
 cond (decide (n≤0))
 (some (0,c))
 (cond (decide (n≤256))
 ((rhoM [0]).bind fun _=>
 (Zbg c).bind fun y1=>
 (chk (decide (n≠0))).bind fun _=>
 some ((Int.tmod y1.1 n),y1.2))
 ((rhoM [0]).bind fun _=>
 (Zbg c).bind fun y2=>
 (rhoM [0]).bind fun _=>
 (Zbg y2.2).bind fun y3=>
 (rhoM [0]).bind fun _=>
 (Zbg y3.2).bind fun y4=>
 (chk (decide (n≠0))).bind fun _=>
 some ((Int.tmod (w64 ((w64 ((w64 (y2.1*65536))+(w64 (y3.1*256))))+y4.1)) n),y4.2)))
instance (c:Zx) (n:Int):CT Tryz.prog (Zk c n):=⟨106,[.be 0 0 0,vi n],[some ⟨187,3,[[.sl (c.b.map cB8),vi c.i,vi c.h]]⟩],fun r=>vi r.1,fun r=>[some ⟨187,3,[[.sl (r.2.b.map cB8),vi r.2.i,vi r.2.h]]⟩],fun H=>by replace H:=H0 H; unfold Zk at H; exact Zh Tryz.func106 rfl Tryz.ntmps106 Tryz.results106 fun Q hQ hQn=>wk3⟩
def ZM (c:Zx) (n:Int):Option (Bool × Zx):=
 (rhoM [0]).bind fun _=>
 (Zk c n).bind fun y1=>
 some ((decide (y1.1=0)),y1.2)
instance (c:Zx) (n:Int):CT Tryz.prog (ZM c n):=⟨104,[.be 0 0 0,vi n],[some ⟨187,3,[[.sl (c.b.map cB8),vi c.i,vi c.h]]⟩],fun r=>vb r.1,fun r=>[some ⟨187,3,[[.sl (r.2.b.map cB8),vi r.2.i,vi r.2.h]]⟩],fun H=>by replace H:=H0 H; unfold ZM at H; exact Zh Tryz.func104 rfl Tryz.ntmps104 Tryz.results104 fun Q hQ hQn=>wk3⟩
def Zcg (c:Zx) (list:List ByteArray):Option (ByteArray × Zx × (List ByteArray)):=
 (rhoM [0]).bind fun _=>
 (Zk c (list.length:Int)).bind fun y1=>
 (getI list y1.1).bind fun y2=>
 some (y2,y1.2,list)
instance (c:Zx) (list:List ByteArray):CT Tryz.prog (Zcg c list):=⟨179,[.be 0 0 0,.ms 1],[some ⟨187,3,[[.sl (c.b.map cB8),vi c.i,vi c.h]]⟩,some ⟨9,1,list.map cStr⟩],fun r=>vs r.1,fun r=>[some ⟨187,3,[[.sl (r.2.1.b.map cB8),vi r.2.1.i,vi r.2.1.h]]⟩,some ⟨9,1,r.2.2.map cStr⟩],fun H=>by replace H:=H0 H; unfold Zcg at H; exact Zh Tryz.func179 rfl Tryz.ntmps179 Tryz.results179 fun Q hQ hQn=>wk3⟩
def Zbt (c:Zx):Option (ByteArray × Zx):=
 (rhoM [0,1]).bind fun _=>
 (Zcg c ([⟨#[65,77,83]⟩,⟨#[66,82,85]⟩,⟨#[67,68,71]⟩,⟨#[68,85,66]⟩,⟨#[69,68,73]⟩,⟨#[70,82,65]⟩,⟨#[71,79,84]⟩])).bind fun y1=>
 some (y1.1,y1.2.1)
instance (c:Zx):CT Tryz.prog (Zbt c):=⟨249,[.be 0 0 0],[some ⟨187,3,[[.sl (c.b.map cB8),vi c.i,vi c.h]]⟩],fun r=>vs r.1,fun r=>[some ⟨187,3,[[.sl (r.2.b.map cB8),vi r.2.i,vi r.2.h]]⟩],fun H=>by replace H:=H0 H; unfold Zbt at H; exact Zh Tryz.func249 rfl Tryz.ntmps249 Tryz.results249 fun Q hQ hQn=>wk3⟩
def Za7 (c:Zx) (list:List Int):Option (Int × Zx × (List Int)):=
 (rhoM [0]).bind fun _=>
 (Zk c (list.length:Int)).bind fun y1=>
 (getI list y1.1).bind fun y2=>
 some (y2,y1.2,list)
instance (c:Zx) (list:List Int):CT Tryz.prog (Za7 c list):=⟨105,[.be 0 0 0,.ms 1],[some ⟨187,3,[[.sl (c.b.map cB8),vi c.i,vi c.h]]⟩,some ⟨3,1,list.map cInt⟩],fun r=>vi r.1,fun r=>[some ⟨187,3,[[.sl (r.2.1.b.map cB8),vi r.2.1.i,vi r.2.1.h]]⟩,some ⟨3,1,r.2.2.map cInt⟩],fun H=>by replace H:=H0 H; unfold Za7 at H; exact Zh Tryz.func105 rfl Tryz.ntmps105 Tryz.results105 fun Q hQ hQn=>wk3⟩
def ZdL (y3:Int × Zx) (y4:Int × Zx) (y5:Int × Zx) (y6:Int × Zx) (s0:(List YB8) × Int × Int × ByteArray × ByteArray):Option (((List YB8) × Int × Int × ByteArray × ByteArray) ⊕ ((List YB8) × Int × Int × ByteArray × ByteArray)):=
 cond (decide (s0.2.2.2.1=s0.2.2.2.2))
 ((rhoM [0,3]).bind fun _=>
 (Zcg (⟨s0.1,s0.2.1,s0.2.2.1⟩:Zx) ([⟨#[65,77,83]⟩,⟨#[66,82,85]⟩,⟨#[67,68,71]⟩])).bind fun y7=>
 cond (decide (s0.2.2.2.1=y7.1))
 (some (.inl (y7.2.1.b,y7.2.1.i,y7.2.1.h,⟨#[68,85,66]⟩,y7.1)))
 (some (.inl (y7.2.1.b,y7.2.1.i,y7.2.1.h,s0.2.2.2.1,y7.1))))
 (some (.inr (s0.1,s0.2.1,s0.2.2.1,s0.2.2.2.1,s0.2.2.2.2)))
instance (y3:Int × Zx) (y4:Int × Zx) (y5:Int × Zx) (y6:Int × Zx):ZU (ZdL y3 y4 y5 y6):=⟨fun s0=>(.be 0 0 0::.un::.be 1 0 0::.be 2 0 0::(U 43 [])),fun s0=>[some ⟨187,3,[[.sl (s0.1.map cB8),vi s0.2.1,vi s0.2.2.1]]⟩,some ⟨67,6,[[vs (⟨#[]⟩),vs (⟨#[]⟩),vi 0,vi 0,vi 0,vi 0]]⟩,some ⟨67,6,[[vs s0.2.2.2.1,vs s0.2.2.2.2,vi (w64 (30*y3.1)),vi (w64 (30*(w64 (1+y4.1)))),vi (w64 (1+y5.1)),vi (w64 (1000*y6.1))]]⟩]⟩
def ZdV (c:Zx):Option (YLeg × Zx):=
 (rhoM [0]).bind fun _=>
 (Zbt c).bind fun y1=>
 (rhoM [0]).bind fun _=>
 (Zbt y1.2).bind fun y2=>
 (rhoM [0]).bind fun _=>
 (Zk y2.2 48).bind fun y3=>
 (rhoM [0]).bind fun _=>
 (Zk y3.2 40).bind fun y4=>
 (rhoM [0]).bind fun _=>
 (Zk y4.2 127).bind fun y5=>
 (rhoM [0]).bind fun _=>
 (Zk y5.2 60).bind fun y6=>
 (Zl (ZdL y3 y4 y5 y6) NN (y6.2.b,y6.2.i,y6.2.h,y1.1,y2.1)).bind (fun o0=>
 (rhoM [0]).bind fun _=>
 (ZM (⟨o0.1,o0.2.1,o0.2.2.1⟩:Zx) 2).bind fun y8=>
 cond y8.1
 ((rhoM [0]).bind fun _=>
 (ZM y8.2 9).bind fun y9=>
 cond y9.1
 ((rhoM [0,3]).bind fun _=>
 (Za7 y9.2 ([1,1440,4320])).bind fun y10=>
 some ((⟨o0.2.2.2.1,o0.2.2.2.2,(w64 (30*y3.1)),y10.1,127,(w64 (1000*y6.1))⟩:YLeg),y10.2.1))
 (some ((⟨o0.2.2.2.1,o0.2.2.2.2,(w64 (30*y3.1)),(w64 (30*(w64 (1+y4.1)))),127,(w64 (1000*y6.1))⟩:YLeg),y9.2)))
 ((rhoM [0]).bind fun _=>
 (ZM y8.2 9).bind fun y11=>
 cond y11.1
 ((rhoM [0,3]).bind fun _=>
 (Za7 y11.2 ([1,1440,4320])).bind fun y12=>
 some ((⟨o0.2.2.2.1,o0.2.2.2.2,(w64 (30*y3.1)),y12.1,(w64 (1+y5.1)),(w64 (1000*y6.1))⟩:YLeg),y12.2.1))
 (some ((⟨o0.2.2.2.1,o0.2.2.2.2,(w64 (30*y3.1)),(w64 (30*(w64 (1+y4.1)))),(w64 (1+y5.1)),(w64 (1000*y6.1))⟩:YLeg),y11.2))))
instance (c:Zx):CT Tryz.prog (ZdV c):=⟨256,[.be 0 0 0],[some ⟨187,3,[[.sl (c.b.map cB8),vi c.i,vi c.h]]⟩],fun r=>.ag [vs r.1.from_,vs r.1.to_,vi r.1.start,vi r.1.takes,vi r.1.days,vi r.1.room],fun r=>[some ⟨187,3,[[.sl (r.2.b.map cB8),vi r.2.i,vi r.2.h]]⟩],fun H=>by replace H:=H0 H; unfold ZdV at H; exact Zh Tryz.func256 rfl Tryz.ntmps256 Tryz.results256 fun Q hQ hQn=>wk3⟩
def Zdl (most:Int) (y1:Int × Zx) (s0:Int × (List YB8) × Int × Int × (List YLeg)):Option ((Int × (List YB8) × Int × Int × (List YLeg)) ⊕ ((List YB8) × Int × Int × (List YLeg))):=
 cond (decide (0<s0.1))
 ((rhoM [0]).bind fun _=>
 (ZdV (⟨s0.2.1,s0.2.2.1,s0.2.2.2.1⟩:Zx)).bind fun y3=>
 (chk (Z1 ((s0.2.2.2.2:List YLeg).length+([y3.1]:List YLeg).length) 64)).bind fun _=>
 (rhoM [0]).bind fun _=>
 (ZM y3.2 3).bind fun y4=>
 cond y4.1
 (cond (decide ((((s0.2.2.2.2:List YLeg)++[y3.1]).length:Int)<most))
 ((getI ((s0.2.2.2.2:List YLeg)++[y3.1]) (w64 ((((s0.2.2.2.2:List YLeg)++[y3.1]).length:Int)-1))).bind fun y5=>
 (getI ((s0.2.2.2.2:List YLeg)++[y3.1]) (w64 ((((s0.2.2.2.2:List YLeg)++[y3.1]).length:Int)-1))).bind fun y6=>
 (drwL 8 [3]).bind fun _=>
 (rhoM [0]).bind fun _=>
 (Zk y4.2 20).bind fun y7=>
 (chk (Z1 ((((s0.2.2.2.2:List YLeg)++[y3.1]):List YLeg).length+([(⟨y5.to_,y6.from_,(Int.tmod (w64 (y3.1.start+(w64 (60*y7.1)))) 1440),y3.1.takes,y3.1.days,y3.1.room⟩:YLeg)]:List YLeg).length) 64)).bind fun _=>
 some (.inl ((w64 (s0.1-1)),y7.2.b,y7.2.i,y7.2.h,((((s0.2.2.2.2:List YLeg)++[y3.1]):List YLeg)++[(⟨y5.to_,y6.from_,(Int.tmod (w64 (y3.1.start+(w64 (60*y7.1)))) 1440),y3.1.takes,y3.1.days,y3.1.room⟩:YLeg)]))))
 (some (.inl ((w64 (s0.1-1)),y4.2.b,y4.2.i,y4.2.h,((s0.2.2.2.2:List YLeg)++[y3.1])))))
 (some (.inl ((w64 (s0.1-1)),y4.2.b,y4.2.i,y4.2.h,((s0.2.2.2.2:List YLeg)++[y3.1])))))
 (some (.inr (s0.2.1,s0.2.2.1,s0.2.2.2.1,s0.2.2.2.2)))
instance (most:Int) (y1:Int × Zx):ZU (Zdl most y1):=⟨fun s0=>(.be 0 0 0::vi most::.un::.un::.be 1 0 0::.be 2 0 0::vi s0.1::(U 74 [])),fun s0=>[some ⟨187,3,[[.sl (s0.2.1.map cB8),vi s0.2.2.1,vi s0.2.2.2.1]]⟩,some ⟨35,3,[[.v (.slice none 0 0),.v (.slice none 0 0),vi 0]]⟩,some ⟨35,3,[[.ms 3,.v (.slice none 0 0),vi (w64 (15*y1.1))]]⟩,some ⟨67,6,s0.2.2.2.2.map cLeg⟩]⟩
def Zdu (c:Zx) (most:Int):Option (Za × Zx):=
 (rhoM [0]).bind fun _=>
 (Zk c 9).bind fun y1=>
 (rhoM [0]).bind fun _=>
 (Zk y1.2 most).bind fun y2=>
 (Zl (Zdl most y1) NN ((w64 (1+y2.1)),y2.2.b,y2.2.i,y2.2.h,[])).bind (fun o0=>
 (rhoM [0]).bind fun _=>
 (ZM (⟨o0.1,o0.2.1,o0.2.2.1⟩:Zx) 2).bind fun y8=>
 cond y8.1
 ((rhoM [0]).bind fun _=>
 (Zk y8.2 3).bind fun y9=>
 (rhoM [0]).bind fun _=>
 (Zk y9.2 4).bind fun y10=>
 some ((⟨o0.2.2.2,[y9.1,(w64 (3+y10.1))],(w64 (15*y1.1))⟩:Za),y10.2))
 (some ((⟨o0.2.2.2,[],(w64 (15*y1.1))⟩:Za),y8.2)))
instance (c:Zx) (most:Int):CT Tryz.prog (Zdu c most):=⟨230,[.be 0 0 0,vi most],[some ⟨187,3,[[.sl (c.b.map cB8),vi c.i,vi c.h]]⟩],fun r=>.ag [.ms 1,.ms 2,vi r.1.change],fun r=>[some ⟨187,3,[[.sl (r.2.b.map cB8),vi r.2.i,vi r.2.h]]⟩,some ⟨67,6,r.1.legs.map cLeg⟩,some ⟨3,1,r.1.off.map cInt⟩],fun H=>by replace H:=H0 H; unfold Zdu at H; exact Zh Tryz.func230 rfl Tryz.ntmps230 Tryz.results230 fun Q hQ hQn=>wk3⟩
def Ze7 (code:List YB8) (s0:Int × Int):Option ((Int × Int) ⊕ Int):=
 cond (decide (s0.2<(code.length:Int)))
 (cond (decide (s0.2<4000))
 ((getI code s0.2).bind fun y1=>
 some (.inl ((IntKind.i64.wrap (BitVec.ofInt IntKind.i64.bits (w64 ((w64 ((w64 (s0.1*167))+(IntKind.i64.wrap y1.v)))+29)) &&& BitVec.ofInt IntKind.i64.bits 1073741823).toNat),(w64 (s0.2+1)))))
 (some (.inr s0.1)))
 (some (.inr s0.1))
instance (code:List YB8):ZU (Ze7 code):=⟨fun s0=>(.sl (code.map cB8)::.un::.un::vi s0.1::vi s0.2::(U 28 [])),fun s0=>[]⟩
def Zeu (code:List YB8):Option Zx:=
 (Zl (Ze7 code) NN ((w64 (744201+(w64 (3*(code.length:Int))))),0)).bind (fun o0=>
 some (⟨code,0,o0⟩:Zx))
instance (code:List YB8):CT Tryz.prog (Zeu code):=⟨102,[.sl (code.map cB8)],[],fun r=>.be 0 0 0,fun r=>[some ⟨187,3,[[.sl (r.b.map cB8),vi r.i,vi r.h]]⟩],fun H=>by replace H:=H0 H; unfold Zeu at H; exact Zh Tryz.func102 rfl Tryz.ntmps102 Tryz.results102 fun Q hQ hQn=>wk3⟩
end Go.Proofs.YtmcdjilbkmhfoaaGreat
namespace Go.Proofs.YtmcdjilbkmhfoaaGreat
set_option maxRecDepth 10000
open Go.RowKit
set_option linter.unusedVariables false
set_option linter.unusedSimpArgs false
def Tot {α:Type} (x:Option α) (P:α→Prop):Prop:=∃ r,x=some r∧P r
theorem Tot.bind {α β:Type} {x:Option α} {P:α→Prop} {f:α→Option β} {Q:β→Prop} (h:Tot x P) (k:∀ r,P r→Tot (f r) Q):Tot (x.bind f) Q:=by
 obtain ⟨r,rfl,hr⟩:=h
 exact k r hr
theorem Tot.cond {β:Type} {b:Bool} {x y:Option β} {Q:β→Prop} (h:b=true→Tot x Q) (k:b=false→Tot y Q):Tot (cond b x y) Q:=by
 cases b with
 | true=>exact h rfl
 | false=>exact k rfl
theorem Tot.ret {β:Type} {r:β} {Q:β→Prop} (h:Q r):Tot (some r) Q:=⟨r,rfl,h⟩
theorem Tot.of {β:Type} {x:Option β} {r:β} {Q:β→Prop} (h:x=some r) (h':Q r):Tot x Q:=⟨r,h,h'⟩
theorem Tot.mono {β:Type} {x:Option β} {P Q:β→Prop} (h:Tot x P) (k:∀ r,P r→Q r):Tot x Q:=by
 obtain ⟨r,e,hr⟩:=h
 exact ⟨r,e,k r hr⟩
theorem Tot.rho {β:Type} {ρ:List Nat} {f:Unit→Option β} {Q:β→Prop} (k:Tot (f ()) Q):Tot ((rhoM ρ).bind f) Q:=k
theorem Tot.drw {β:Type} {wd:Nat} {fl:List Nat} {f:Unit→Option β} {Q:β→Prop} (k:Tot (f ()) Q):Tot ((drwL wd fl).bind f) Q:=k
theorem Tot.frz {β:Type} {t:List PV} {m:Mem} {f:Unit→Option β} {Q:β→Prop} (k:Tot (f ()) Q):Tot ((Go.Proofs.YtmcdjilbkmhfoaaGreat.frz t m).bind f) Q:=k
theorem Tot.frzL {α β:Type} {x:α} {t:α→List PV} {m:α→Mem} {f:α→Option β} {Q:β→Prop} (k:Tot (f x) Q):Tot ((Go.Proofs.YtmcdjilbkmhfoaaGreat.frzL x t m).bind f) Q:=k
theorem Tot.chk {β:Type} {b:Bool} {f:Unit→Option β} {Q:β→Prop} (h:b=true) (k:Tot (f ()) Q):Tot ((Go.Proofs.YtmcdjilbkmhfoaaGreat.chk b).bind f) Q:=by
 subst h; exact k
theorem Tot.get {α β:Type} {xs:List α} {i:Int} {f:α→Option β} {Q:β→Prop} (h0:0≤i) (h1:i<xs.length) (k:∀ x,x∈xs→getI xs i=some x→Tot (f x) Q):Tot ((getI xs i).bind f) Q:=by
 have hlt:i.toNat<xs.length:=by omega
 have e:getI xs i=some xs[i.toNat]:=by unfold getI; rw [if_pos h0]; exact List.getElem?_eq_getElem hlt
 rw [e]
 exact k _ (List.getElem_mem hlt) e
def Zgu {σ ο:Type} (I:Nat→σ→Prop) (P:ο→Prop) (k:Nat):σ ⊕ ο→Prop
 | .inl s'=>∃ k',k'<k∧I k' s'
 | .inr o=>P o
theorem Tot.loop {σ ο:Type} {body:σ→Option (σ ⊕ ο)} (I:Nat→σ→Prop) {P:ο→Prop} (h:∀ k s,I k s→Tot (body s) (Zgu I P k)):∀ (N k:Nat) (s:σ),I k s→k<N→Tot (Zl body N s) P
 | 0,k,s,_,hN=>by omega
 | N+1,k,s,hI,hN=>by
  obtain ⟨r,e,hr⟩:=h k s hI
  simp only [Zl,e]
  cases r with
  | inr o=>exact ⟨o,rfl,hr⟩
  | inl s'=>
   obtain ⟨k',hk,hI'⟩:=hr
   exact Tot.loop I h N k' s' hI' (by omega)
theorem Zcp {a b c:Nat} (h:a+b≤1099511627776) (hc:c≤128):Z1 (a+b) c=true:=by
 unfold Z1
 refine decide_eq_true ⟨by omega,?_⟩
 have:(a+b)*c≤1099511627776*128:=Nat.mul_le_mul h hc
 omega
structure Zco (c:Zx):Prop where
 i:0≤c.i
 len:c.b.length≤4096
 b:∀ x∈c.b,0≤x.v∧x.v≤255
theorem Ztx (x:BitVec IntKind.i64.bits):0≤IntKind.i64.wrap ((x &&& BitVec.ofInt IntKind.i64.bits 255).toNat:Int)∧IntKind.i64.wrap ((x &&& BitVec.ofInt IntKind.i64.bits 255).toNat:Int)≤255:=by
 have h:(x &&& BitVec.ofInt IntKind.i64.bits 255).toNat≤255:=by
  have e:(BitVec.ofInt IntKind.i64.bits 255).toNat=255:=by decide
  have:=Nat.and_le_right (n:=x.toNat) (m:=(BitVec.ofInt IntKind.i64.bits 255).toNat)
  rw [e] at this
  rw [BitVec.toNat_and]
  exact this
 have e:=Zp (n:=((x &&& BitVec.ofInt IntKind.i64.bits 255).toNat:Int)) (by omega)
 have e':IntKind.i64.wrap ((x &&& BitVec.ofInt IntKind.i64.bits 255).toNat:Int)=((x &&& BitVec.ofInt IntKind.i64.bits 255).toNat:Int):=e
 rw [e']
 omega
theorem Zjg {c:Zx} (h:Zco c):Tot (Zbg c) fun r=>(0≤r.1∧r.1≤255)∧Zco r.2:=by
 unfold Zbg
 refine Tot.cond (fun hc=>?_) fun hc=>?_
 ·have hlt:=of_decide_eq_true hc
  have hl:=h.len
  refine Tot.get h.i hlt fun x hx _=>Tot.ret ⟨Ztx _,⟨?_,h.len,h.b⟩⟩
  show 0≤w64 (c.i+1)
  rw [Zp (by have:=h.i; omega)]
  have:=h.i
  omega
 ·exact Tot.ret ⟨Ztx _,⟨h.i,h.len,h.b⟩⟩
theorem Z2 {c:Zx} (h:Zco c) (n:Int):Tot (Zk c n) fun r=>(0≤r.1∧(0<n→r.1<n)∧(n≤0→r.1=0))∧Zco r.2:=by
 unfold Zk
 refine Tot.cond (fun hc=>?_) fun hc=>?_
 ·have:=of_decide_eq_true hc
  exact Tot.ret ⟨⟨by simp,fun _=>by simp only; omega,fun _=>rfl⟩,h⟩
 ·have h0:=of_decide_eq_false hc
  refine Tot.cond (fun hd=>?_) fun hd=>?_
  ·refine Tot.rho (Tot.bind (Zjg h) fun y hy=>Tot.chk (decide_eq_true (by omega)) (Tot.ret ⟨⟨?_,fun _=>?_,fun hn=>absurd hn h0⟩,hy.2⟩))
   ·exact Int.tmod_nonneg _ hy.1.1
   ·exact Int.tmod_lt_of_pos _ (by omega)
  ·refine Tot.rho (Tot.bind (Zjg h) fun y hy=>Tot.rho (Tot.bind (Zjg hy.2) fun z hz=>Tot.rho (Tot.bind (Zjg hz.2) fun u hu=>Tot.chk (decide_eq_true (by omega)) (Tot.ret ⟨⟨?_,fun _=>?_,fun hn=>absurd hn h0⟩,hu.2⟩))))
   ·have e1:w64 (y.1*65536)=y.1*65536:=Zp (by omega)
    have e2:w64 (z.1*256)=z.1*256:=Zp (by omega)
    have e3:w64 (y.1*65536+z.1*256)=y.1*65536+z.1*256:=Zp (by omega)
    have e4:w64 (y.1*65536+z.1*256+u.1)=y.1*65536+z.1*256+u.1:=Zp (by omega)
    simp only [e1,e2,e3,e4]
    exact Int.tmod_nonneg _ (by omega)
   ·exact Int.tmod_lt_of_pos _ (by omega)
theorem ZeB {c:Zx} (h:Zco c) (n:Int):Tot (ZM c n) fun r=>Zco r.2:=by
 unfold ZM
 exact Tot.rho (Tot.bind (Z2 h n) fun y hy=>Tot.ret hy.2)
theorem ZnV {c:Zx} (h:Zco c) {l:List ByteArray} (hl:0<l.length):Tot (Zcg c l) fun r=>r.1∈l∧Zco r.2.1:=by
 unfold Zcg
 exact Tot.rho (Tot.bind (Z2 h _) fun y hy=>Tot.get hy.1.1 (hy.1.2.1 (by omega)) fun x hx _=>Tot.ret ⟨hx,hy.2⟩)
theorem ZjT {c:Zx} (h:Zco c) {l:List Int} (hl:0<l.length):Tot (Za7 c l) fun r=>r.1∈l∧Zco r.2.1:=by
 unfold Za7
 exact Tot.rho (Tot.bind (Z2 h _) fun y hy=>Tot.get hy.1.1 (hy.1.2.1 (by omega)) fun x hx _=>Tot.ret ⟨hx,hy.2⟩)
def Zio:List ByteArray:=[⟨#[65,77,83]⟩,⟨#[66,82,85]⟩,⟨#[67,68,71]⟩,⟨#[68,85,66]⟩,⟨#[69,68,73]⟩,⟨#[70,82,65]⟩,⟨#[71,79,84]⟩]
theorem Zka {c:Zx} (h:Zco c):Tot (Zbt c) fun r=>r.1∈Zio∧Zco r.2:=by
 unfold Zbt
 exact Tot.rho (Tot.bind (ZnV h (by simp)) fun y hy=>Tot.ret ⟨hy.1,hy.2⟩)
structure LegD (l:YLeg):Prop where
 from_:l.from_∈Zio
 to_:l.to_∈Zio
 ne:¬ l.from_=l.to_
 start:0≤l.start∧l.start≤1439
 takes:1≤l.takes∧l.takes≤4320
 days:1≤l.days∧l.days≤127
 room:0≤l.room∧l.room≤1000000
theorem Zuw {c:Zx} (h:Zco c):Tot (ZdV c) fun r=>LegD r.1∧Zco r.2:=by
 unfold ZdV
 refine Tot.rho (Tot.bind (Zka h) fun y1 h1=>Tot.rho (Tot.bind (Zka h1.2) fun y2 h2=>Tot.rho (Tot.bind (Z2 h2.2 48) fun y3 h3=>Tot.rho (Tot.bind (Z2 h3.2 40) fun y4 h4=>Tot.rho (Tot.bind (Z2 h4.2 127) fun y5 h5=>Tot.rho (Tot.bind (Z2 h5.2 60) fun y6 h6=>?_))))))
 have b3:=h3.1.2.1 (by omega)
 have b4:=h4.1.2.1 (by omega)
 have b5:=h5.1.2.1 (by omega)
 have b6:=h6.1.2.1 (by omega)
 have hloop:Tot (Zl (ZdL y3 y4 y5 y6) NN (y6.2.b,y6.2.i,y6.2.h,y1.1,y2.1)) fun o=>Zco ⟨o.1,o.2.1,o.2.2.1⟩∧o.2.2.2.1∈Zio∧o.2.2.2.2∈Zio∧¬ o.2.2.2.1=o.2.2.2.2:=by
  refine Tot.loop (fun k s=>Zco ⟨s.1,s.2.1,s.2.2.1⟩∧s.2.2.2.1∈Zio∧s.2.2.2.2∈Zio∧(k=1∨(k=0∧¬ s.2.2.2.1=s.2.2.2.2))) (fun k s hs=>?_) NN 1 _ ⟨h6.2,h1.1,h2.1,.inl rfl⟩ (by unfold NN; omega)
  obtain ⟨k1,k2,k3,k4⟩:=hs
  unfold ZdL
  refine Tot.cond (fun hc=>?_) fun hc=>Tot.ret ⟨k1,k2,k3,of_decide_eq_false hc⟩
  have he:=of_decide_eq_true hc
  have hk:k=1:=by rcases k4 with k4 | ⟨_,k4⟩
                  ·exact k4
                  ·exact absurd he k4
  subst hk
  refine Tot.rho (Tot.bind (ZnV k1 (by simp)) fun y7 h7=>?_)
  have hy:y7.1∈Zio∧¬ (⟨#[68,85,66]⟩:ByteArray)=y7.1:=by
   have:=h7.1
   simp only [List.mem_cons,List.not_mem_nil,or_false] at this
   rcases this with e | e | e <;> rw [e] <;> exact ⟨by simp [Zio],by decide +kernel⟩
  have hdub:(⟨#[68,85,66]⟩:ByteArray)∈Zio:=by simp [Zio]
  refine Tot.cond (fun hd=>Tot.ret ⟨0,by omega,h7.2,hdub,hy.1,.inr ⟨rfl,hy.2⟩⟩) fun hd=>Tot.ret ⟨0,by omega,h7.2,k2,hy.1,.inr ⟨rfl,of_decide_eq_false hd⟩⟩
 refine Tot.bind hloop fun o ho=>Tot.rho (Tot.bind (ZeB ho.1 2) fun y8 h8=>?_)
 have w1:w64 (30*y3.1)=30*y3.1:=Zp (by omega)
 have w2:w64 (1+y4.1)=1+y4.1:=Zp (by omega)
 have w3:w64 (30*(1+y4.1))=30*(1+y4.1):=Zp (by omega)
 have w4:w64 (1+y5.1)=1+y5.1:=Zp (by omega)
 have w5:w64 (1000*y6.1)=1000*y6.1:=Zp (by omega)
 simp only [w1,w2,w3,w4,w5]
 have hin:∀ x:Int,x∈[1,1440,(4320:Int)]→1≤x∧x≤4320:=fun x hx=>by
  simp only [List.mem_cons,List.not_mem_nil,or_false] at hx
  omega
 refine Tot.cond (fun hd=>Tot.rho (Tot.bind (ZeB h8 9) fun y9 h9=>Tot.cond (fun he=>Tot.rho (Tot.bind (ZjT h9 (by simp)) fun y10 h10=>Tot.ret ⟨⟨ho.2.1,ho.2.2.1,ho.2.2.2,by simp only; omega,hin _ h10.1,by simp only; omega,by simp only; omega⟩,h10.2⟩)) fun he=>Tot.ret ⟨⟨ho.2.1,ho.2.2.1,ho.2.2.2,by simp only; omega,by simp only; omega,by simp only; omega,by simp only; omega⟩,h9⟩))
  fun hd=>Tot.rho (Tot.bind (ZeB h8 9) fun y9 h9=>Tot.cond (fun he=>Tot.rho (Tot.bind (ZjT h9 (by simp)) fun y10 h10=>Tot.ret ⟨⟨ho.2.1,ho.2.2.1,ho.2.2.2,by simp only; omega,hin _ h10.1,by simp only; omega,by simp only; omega⟩,h10.2⟩)) fun he=>Tot.ret ⟨⟨ho.2.1,ho.2.2.1,ho.2.2.2,by simp only; omega,by simp only; omega,by simp only; omega,by simp only; omega⟩,h9⟩)
structure NetD (n:Za):Prop where
 len:1≤n.legs.length∧n.legs.length≤14
 leg:∀ l∈n.legs,LegD l
 off:n.off=[]∨∃ a b:Int,n.off=[a,b]∧0≤a∧a<b∧b≤60
 change:0≤n.change∧n.change≤240
theorem ZuE {c:Zx} (h:Zco c):Tot (Zdu c 7) fun r=>NetD r.1∧Zco r.2:=by
 unfold Zdu
 refine Tot.rho (Tot.bind (Z2 h 9) fun y1 h1=>Tot.rho (Tot.bind (Z2 h1.2 7) fun y2 h2=>?_))
 have b1:=h1.1.2.1 (by omega)
 have b2:=h2.1.2.1 (by omega)
 have w1:w64 (1+y2.1)=1+y2.1:=Zp (by omega)
 have hloop:Tot (Zl (Zdl 7 y1) NN (w64 (1+y2.1),y2.2.b,y2.2.i,y2.2.h,[])) fun o=>Zco ⟨o.1,o.2.1,o.2.2.1⟩∧1≤o.2.2.2.length∧o.2.2.2.length≤14∧∀ l∈o.2.2.2,LegD l:=by
  refine Tot.loop (fun k s=>s.1=(k:Int)∧k≤7∧Zco ⟨s.2.1,s.2.2.1,s.2.2.2.1⟩∧s.2.2.2.2.length+2*k≤14∧(k=0→1≤s.2.2.2.2.length)∧∀ l∈s.2.2.2.2,LegD l) (fun k s hs=>?_) NN (1+y2.1).toNat _ ⟨by rw [w1]; omega,by omega,h2.2,by simp only [List.length_nil]; omega,fun hk=>by omega,fun l hl=>by cases hl⟩ (by unfold NN; omega)
  obtain ⟨k1,k2,k3,k4,k5,k6⟩:=hs
  unfold Zdl
  refine Tot.cond (fun hc=>?_) fun hc=>Tot.ret ⟨k3,k5 (by have:=of_decide_eq_false hc; omega),by simp only; omega,k6⟩
  have hk:=of_decide_eq_true hc
  have hw:w64 (s.1-1)=((k-1:Nat):Int):=by rw [Zp (by omega)]; omega
  refine Tot.rho (Tot.bind (Zuw k3) fun y3 h3=>Tot.chk (Zcp (by simp only [List.length_cons,List.length_nil]; omega) (by omega)) (Tot.rho (Tot.bind (ZeB h3.2 3) fun y4 h4=>?_)))
  have hall:∀ l∈s.2.2.2.2++[y3.1],LegD l:=fun l hl=>by
   rcases List.mem_append.1 hl with hl | hl
   ·exact k6 l hl
   ·obtain rfl:=List.mem_singleton.1 hl; exact h3.1
  have hlen:(s.2.2.2.2++[y3.1]).length=s.2.2.2.2.length+1:=by simp
  have one:Tot (some (Sum.inl (w64 (s.1-1),y4.2.b,y4.2.i,y4.2.h,s.2.2.2.2++[y3.1])):Option ((Int × List YB8 × Int × Int × List YLeg) ⊕ (List YB8 × Int × Int × List YLeg)))
   (Zgu (fun k s=>s.1=(k:Int)∧k≤7∧Zco ⟨s.2.1,s.2.2.1,s.2.2.2.1⟩∧s.2.2.2.2.length+2*k≤14∧(k=0→1≤s.2.2.2.2.length)∧∀ l∈s.2.2.2.2,LegD l) (fun o=>Zco ⟨o.1,o.2.1,o.2.2.1⟩∧1≤o.2.2.2.length∧o.2.2.2.length≤14∧∀ l∈o.2.2.2,LegD l) k):=Tot.ret ⟨k-1,by omega,hw,by omega,h4,by simp only [hlen]; omega,fun _=>by simp only [hlen]; omega,hall⟩
  refine Tot.cond (fun hd=>Tot.cond (fun he=>?_) fun he=>one) fun hd=>one
  have hwl:w64 (((s.2.2.2.2++[y3.1]).length:Int)-1)=(s.2.2.2.2.length:Int):=by rw [hlen,Zp (by omega)]; omega
  have hlast:getI (s.2.2.2.2++[y3.1]) (s.2.2.2.2.length:Int)=some y3.1:=by rw [Zq,List.getElem?_append_right (Nat.le_refl _)]; simp
  rw [hwl,hlast]
  simp only [Option.bind_some]
  refine Tot.drw (Tot.rho (Tot.bind (Z2 h4 20) fun y7 h7=>Tot.chk (Zcp (by simp only [List.length_cons,List.length_nil,hlen]; omega) (by omega)) (Tot.ret ⟨k-1,by omega,hw,by omega,h7.2,?_,fun _=>?_,fun l hl=>?_⟩)))
  ·simp only [List.length_append,List.length_cons,List.length_nil]; omega
  ·simp only [List.length_append,List.length_cons,List.length_nil]; omega
  ·rcases List.mem_append.1 hl with hl | hl
   ·exact hall l hl
   ·obtain rfl:=List.mem_singleton.1 hl
    obtain ⟨a1,a2,a3,a4,a5,a6,a7⟩:=h3.1
    have b7:=h7.1.2.1 (by omega)
    have e1:w64 (60*y7.1)=60*y7.1:=Zp (by omega)
    have e2:w64 (y3.1.start+60*y7.1)=y3.1.start+60*y7.1:=Zp (by omega)
    refine ⟨a2,a1,fun e=>a3 e.symm,?_,a5,a6,a7⟩
    simp only [e1,e2]
    have g1:=Int.tmod_nonneg 1440 (show 0≤y3.1.start+60*y7.1 by omega)
    have g2:=Int.tmod_lt_of_pos (y3.1.start+60*y7.1) (show (0:Int)<1440 by omega)
    omega
 refine Tot.bind hloop fun o ho=>Tot.rho (Tot.bind (ZeB ho.1 2) fun y8 h8=>?_)
 have w2:w64 (15*y1.1)=15*y1.1:=Zp (by omega)
 simp only [w2]
 refine Tot.cond (fun hd=>Tot.rho (Tot.bind (Z2 h8 3) fun y9 h9=>Tot.rho (Tot.bind (Z2 h9.2 4) fun y10 h10=>?_))) fun hd=>Tot.ret ⟨⟨⟨ho.2.1,ho.2.2.1⟩,ho.2.2.2,.inl rfl,by simp only; omega⟩,h8⟩
 have b9:=h9.1.2.1 (by omega)
 have b10:=h10.1.2.1 (by omega)
 have w3:w64 (3+y10.1)=3+y10.1:=Zp (by omega)
 exact Tot.ret ⟨⟨⟨ho.2.1,ho.2.2.1⟩,ho.2.2.2,.inr ⟨_,_,rfl,by omega,by omega,by omega⟩,by simp only; omega⟩,h10.2⟩
theorem ZuF {code:List YB8} (hl:code.length≤4096) (hb:∀ x∈code,0≤x.v∧x.v≤255):Tot (Zeu code) Zco:=by
 unfold Zeu
 refine Tot.bind (P:=fun _=>True) ?_ fun o _=>Tot.ret ⟨by simp,hl,hb⟩
 refine Tot.loop (fun k s=>∃ i:Nat,s.2=(i:Int)∧i+k=code.length) (fun k s hs=>?_) NN code.length _ ⟨0,rfl,by omega⟩ (by unfold NN; omega)
 obtain ⟨i,hi,hk⟩:=hs
 unfold Ze7
 rw [hi]
 refine Tot.cond (fun hc=>Tot.cond (fun hd=>?_) fun hd=>Tot.ret trivial) fun hc=>Tot.ret trivial
 have hlt:=of_decide_eq_true hc
 exact Tot.get (by omega) hlt fun x hx _=>Tot.ret ⟨k-1,by omega,i+1,by simp only; rw [Zp (by omega)]; omega,by omega⟩
end Go.Proofs.YtmcdjilbkmhfoaaGreat
namespace Go.Proofs.YtmcdjilbkmhfoaaGreat
set_option maxRecDepth 10000
open Go.RowKit
set_option linter.unusedVariables false
set_option linter.unusedSimpArgs false
set_option linter.unusedSectionVars false
def ZgO (a:Int) (e:Option Int):Int:=match e with
 | some v=>if a<0∨v<a then v else a
 | none=>a
def Zcj (w:Zd):Int:=w.orders.foldl (fun a o=>ZgO a (ZaZ w.network o)) (-1)
theorem ZjJ {n:Za}:∀ (os:List Zf) (a:Int),(∀ o∈os,∀ e,ZaZ n o=some e→0≤e)→a<0∨0≤a→
 (os.foldl (fun a o=>ZgO a (ZaZ n o)) a=a∧a<0∧∀ o∈os,ZaZ n o=none)∨
 (0≤os.foldl (fun a o=>ZgO a (ZaZ n o)) a∧(os.foldl (fun a o=>ZgO a (ZaZ n o)) a=a∨∃ o∈os,ZaZ n o=some (os.foldl (fun a o=>ZgO a (ZaZ n o)) a))∧(0≤a→os.foldl (fun a o=>ZgO a (ZaZ n o)) a≤a)∧∀ o∈os,∀ e,ZaZ n o=some e→os.foldl (fun a o=>ZgO a (ZaZ n o)) a≤e)
 | [],a,_,ha=>by
  rcases ha with ha | ha
  ·exact .inl ⟨rfl,ha,fun o h=>by cases h⟩
  ·exact .inr ⟨ha,.inl rfl,fun _=>Int.le_refl _,fun o h=>by cases h⟩
 | o::os,a,h,ha=>by
  simp only [List.foldl_cons]
  have h0:=h o List.mem_cons_self
  have hs:=fun x hx=>h x (List.mem_cons_of_mem o hx)
  cases ho:ZaZ n o with
  | none=>
   have e:ZgO a none=a:=rfl
   rw [e]
   rcases ZjJ os a hs ha with ⟨k1,k2,k3⟩ | ⟨k1,k2,k3,k4⟩
   ·exact .inl ⟨k1,k2,fun x hx=>by rcases List.mem_cons.1 hx with rfl | hx
                                   ·exact ho
                                   ·exact k3 x hx⟩
   ·refine .inr ⟨k1,?_,k3,fun x hx e he=>?_⟩
    ·rcases k2 with k2 | ⟨x,hx,k2⟩
     ·exact .inl k2
     ·exact .inr ⟨x,List.mem_cons_of_mem _ hx,k2⟩
    ·rcases List.mem_cons.1 hx with rfl | hx
     ·rw [ho] at he; cases he
     ·exact k4 x hx e he
  | some v=>
   have hv:=h0 v ho
   have e:0≤ZgO a (some v)∧ZgO a (some v)≤v∧(0≤a→ZgO a (some v)≤a)∧(ZgO a (some v)=a∨ZgO a (some v)=v):=by
    unfold ZgO; simp only; split <;> omega
   obtain ⟨e1,e2,e3,e4⟩:=e
   rcases ZjJ os (ZgO a (some v)) hs (.inr e1) with ⟨k1,k2,k3⟩ | ⟨k1,k2,k3,k4⟩
   ·omega
   ·have k3':=k3 e1
    refine .inr ⟨k1,?_,fun ha=>by have:=e3 ha; omega,fun x hx e he=>?_⟩
    ·rcases k2 with k2 | ⟨x,hx,k2⟩
     ·rcases e4 with e4 | e4
      ·exact .inl (by rw [k2,e4])
      ·exact .inr ⟨o,List.mem_cons_self,by rw [k2,e4,ho]⟩
     ·exact .inr ⟨x,List.mem_cons_of_mem _ hx,k2⟩
    ·rcases List.mem_cons.1 hx with rfl | hx
     ·rw [ho] at he; obtain rfl:=Option.some.inj he; omega
     ·exact k4 x hx e he
theorem ZqD {n:Za} {o:Zf} (h:Zjw n o) {e:Int} (he:ZaZ n o=some e):0≤e∧e≤100000:=by
 unfold ZaZ at he
 cases ht:o.way[o.gone.toNat]? with
 | none=>rw [ht] at he; cases he
 | some t=>
  rw [ht] at he
  obtain ⟨a,b,c⟩:=h.trip t (List.mem_of_getElem? ht)
  simp only [Option.map_some,Option.some.injEq] at he
  subst he
  split <;> omega
theorem Zh5 {w:Zd} (h:WOk w):(Zcj w=-1∧∀ o∈w.orders,ZaZ w.network o=none)∨
 (w.now<Zcj w∧Zcj w≤100000∧(∃ o∈w.orders,ZaZ w.network o=some (Zcj w))∧∀ o∈w.orders,∀ e,ZaZ w.network o=some e→Zcj w≤e):=by
 have hp:∀ o∈w.orders,∀ e,ZaZ w.network o=some e→0≤e∧e≤100000:=fun o ho e he=>by
  obtain ⟨i,hi,rfl⟩:=List.getElem_of_mem ho
  exact ZqD (h.way (List.getElem?_eq_getElem hi)) he
 rcases ZjJ w.orders (-1) (fun o ho e he=>(hp o ho e he).1) (.inl (by omega)) with ⟨k1,_,k3⟩ | ⟨k1,k2,_,k4⟩
 ·exact .inl ⟨k1,k3⟩
 ·rcases k2 with k2 | ⟨o,ho,k2⟩
  ·exact absurd k1 (by rw [k2]; omega)
  ·refine .inr ⟨?_,(hp o ho _ k2).2,⟨o,ho,k2⟩,k4⟩
   obtain ⟨i,hi,rfl⟩:=List.getElem_of_mem ho
   have hs:=ZfP (h.state (List.getElem?_eq_getElem hi)) (h.way (List.getElem?_eq_getElem hi)).gone
   exact hs.next _ k2
theorem ZfI {w:Zd} (h:WOk w) (hn:0≤Zcj w):WOk (Zav w (Zcj w))∧w.now<Zcj w∧Zcj w≤100000:=by
 rcases Zh5 h with ⟨k,_⟩ | ⟨k1,k2,k3,k4⟩
 ·omega
 ·exact ⟨Zl7 h (by omega) k2 k4,k1,k2⟩
def Zfv (w:Zd):Nat:=(w.orders.map ZdM).sum
theorem ZtS {α:Type} {f g:α→Nat}:∀ {l:List α},(∀ x∈l,f x≤g x)→(∃ x∈l,f x<g x)→(l.map f).sum<(l.map g).sum
 | [],_,⟨x,h,_⟩=>by cases h
 | a::l,h,⟨x,hx,hlt⟩=>by
  have h1:=h a List.mem_cons_self
  have h2:(l.map f).sum≤(l.map g).sum:=sum_le fun x hx=>h x (List.mem_cons_of_mem _ hx)
  simp only [List.map_cons,List.sum_cons]
  rcases List.mem_cons.1 hx with rfl | hx
  ·omega
  ·have:=ZtS (fun x hx=>h x (List.mem_cons_of_mem _ hx)) ⟨x,hx,hlt⟩
   omega
where
 sum_le {α:Type} {f g:α→Nat}:∀ {l:List α},(∀ x∈l,f x≤g x)→(l.map f).sum≤(l.map g).sum
 | [],_=>Nat.le_refl _
 | a::l,h=>by
  have h1:=h a List.mem_cons_self
  have h2:=sum_le fun x hx=>h x (List.mem_cons_of_mem _ hx)
  simp only [List.map_cons,List.sum_cons]
  omega
theorem ZfJ {w:Zd} (h:WOk w) (hn:0≤Zcj w):Zfv (Zav w (Zcj w))<Zfv w:=by
 rcases Zh5 h with ⟨k,_⟩ | ⟨k1,k2,⟨o,ho,k3⟩,k4⟩
 ·omega
 ·have hstep:∀ x∈w.orders,ZdM (ZdI w.network (Zcj w) x)≤ZdM x∧(ZaZ w.network x=some (Zcj w)→ZdM (ZdI w.network (Zcj w) x)<ZdM x):=fun x hx=>by
   obtain ⟨i,hi,rfl⟩:=List.getElem_of_mem hx
   have hi':=List.getElem?_eq_getElem hi
   exact (Zr7 (h.way hi') (h.state hi') (by omega) (k4 _ hx)).2.2
  unfold Zfv Zav
  simp only [List.map_map]
  exact ZtS (f:=ZdM ∘ ZdI w.network (Zcj w)) (fun x hx=>(hstep x hx).1) ⟨o,ho,(hstep o ho).2 k3⟩
def runV:Nat→Zd→Int→Zd
 | 0,w,_=>w
 | k+1,w,u=>if Zcj w<0∨u<Zcj w then w else runV k (Zav w (Zcj w)) u
theorem ZmY {w:Zd} (h:WOk w) (h0:Zfv w=0):Zcj w=-1:=by
 rcases Zh5 h with ⟨k,_⟩ | ⟨k1,k2,⟨o,ho,k3⟩,k4⟩
 ·exact k
 ·exfalso
  have hz:ZdM o=0:=by
   unfold Zfv at h0
   have:=List.sum_eq_zero_iff_forall_eq_nat.1 h0 (ZdM o) (List.mem_map_of_mem ho)
   exact this
  obtain ⟨i,hi,rfl⟩:=List.getElem_of_mem ho
  have hi':=List.getElem?_eq_getElem hi
  rw [Zsc (h.way hi') (h.state hi') hz] at k3
  cases k3
structure Zk3 (w w':Zd):Prop where
 network:w'.network=w.network
 bookings:w'.bookings=w.bookings
 closed:w'.closed=w.closed
 skip:w'.skip=w.skip
 len:w'.orders.length=w.orders.length
 ord:∀ (i:Nat) (o o':Zf),w.orders[i]?=some o→w'.orders[i]?=some o'→ZfH o o'
theorem Zk3.refl (w:Zd):Zk3 w w:=⟨rfl,rfl,rfl,rfl,rfl,fun i o o' h h'=>by rw [h] at h'; obtain rfl:=Option.some.inj h'; exact .refl o⟩
theorem Zk3.trans {a b c:Zd} (h:Zk3 a b) (k:Zk3 b c):Zk3 a c:=by
 refine ⟨k.network.trans h.network,k.bookings.trans h.bookings,k.closed.trans h.closed,k.skip.trans h.skip,k.len.trans h.len,fun i o o' h1 h2=>?_⟩
 have hlt:=(List.getElem?_eq_some_iff.1 h1).1
 have hb:b.orders[i]?=some (b.orders[i]'(by rw [h.len]; exact hlt)):=List.getElem?_eq_getElem _
 exact (h.ord i o _ h1 hb).trans (k.ord i _ o' hb h2)
theorem Znv (w:Zd) (at_:Int):Zk3 w (Zav w at_):=by
 refine ⟨rfl,rfl,rfl,rfl,by simp [Zav],fun i o o' h h'=>?_⟩
 simp only [Zav,List.getElem?_map,h,Option.map_some,Option.some.injEq] at h'
 subst h'
 exact Zgs _ _ o
theorem ZtO:∀ (k:Nat) (w:Zd) (u:Int),WOk w→Zfv w≤k→u≤100000→WOk (runV k w u)∧(Zcj (runV k w u)<0∨u<Zcj (runV k w u))∧Zk3 w (runV k w u)∧(w.now≤u→(runV k w u).now≤u)
 | 0,w,u,h,h0,hu=>⟨h,.inl (by have:=ZmY h (by omega); show Zcj w<0; omega),.refl w,fun h=>h⟩
 | k+1,w,u,h,h0,hu=>by
  unfold runV
  split
  ·rename_i hc
   exact ⟨h,hc,.refl w,fun h=>h⟩
  ·rename_i hc
   obtain ⟨a,b,c⟩:=ZfI h (by omega)
   have ht:=ZfJ h (by omega)
   obtain ⟨r1,r2,r3,r4⟩:=ZtO k (Zav w (Zcj w)) u a (by omega) hu
   exact ⟨r1,r2,(Znv w _).trans r3,fun _=>r4 (by show Zcj w≤u; omega)⟩
theorem Zlz:∀ (k j:Nat) (w:Zd) (u:Int),WOk w→Zfv w≤k→u≤100000→runV (k+j) w u=runV k w u
 | 0,j,w,u,h,h0,hu=>by
  have:=ZmY h (by omega)
  cases j with
  | zero=>rfl
  | succ j=>show runV (0+j+1) w u=w
            unfold runV
            rw [if_pos (.inl (by omega))]
 | k+1,j,w,u,h,h0,hu=>by
  rw [show k+1+j=(k+j)+1 by omega]
  unfold runV
  split
  ·rfl
  ·rename_i hc
   obtain ⟨a,b,c⟩:=ZfI h (by omega)
   have ht:=ZfJ h (by omega)
   exact Zlz k j _ u a (by omega) hu
theorem Zu8 {k j:Nat} {w:Zd} {u:Int} (h:WOk w) (hk:Zfv w≤k) (hj:Zfv w≤j) (hu:u≤100000):runV k w u=runV j w u:=by
 obtain ⟨a,rfl⟩:∃ a,k=Zfv w+a:=⟨k-Zfv w,by omega⟩
 obtain ⟨b,rfl⟩:∃ b,j=Zfv w+b:=⟨j-Zfv w,by omega⟩
 rw [Zlz _ a w u h (Nat.le_refl _) hu,Zlz _ b w u h (Nat.le_refl _) hu]
theorem ZrR {w:Zd} (h:WOk w) {u:Int} (hu:w.now≤u) (hm:u≤100000) (hn:Zcj w<0∨u<Zcj w):WOk { w with now:=u }:=by
 have he:∀ o∈w.orders,∀ e,ZaZ w.network o=some e→u<e:=fun o ho e he=>by
  rcases Zh5 h with ⟨_,k⟩ | ⟨k1,_,_,k4⟩
  ·rw [k o ho] at he; cases he
  ·have:=k4 o ho e he
   have:=h.parts.1
   omega
 have hst:∀ o∈w.orders,ZdI w.network u o=o:=fun o ho=>by
  have hev:=he o ho
  have e1:ZJ w.network u o=o:=by
   unfold ZJ
   cases ht:o.way[o.gone.toNat]? with
   | none=>rfl
   | some t=>
    simp only
    rw [if_neg]
    rintro ⟨c1,c2⟩
    have:=hev u (by unfold ZaZ; rw [ht]; simp [c1,c2])
    omega
  unfold ZdI
  rw [e1]
  unfold Zfm
  cases ht:o.way[o.gone.toNat]? with
  | none=>rfl
  | some t=>
   simp only
   rw [if_neg]
   rintro ⟨c1,c2⟩
   have:=hev u (by unfold ZaZ; rw [ht]; simp [c1,c2])
   omega
 have hmap:w.orders.map (ZdI w.network u)=w.orders:=by
  conv=>rhs; rw [← List.map_id w.orders]
  exact List.map_congr_left fun o ho=>hst o ho
 have hok:=Zl7 h hu hm (fun o ho e h'=>by have:=he o ho e h'; omega)
 have hv:=h.ok
 have hk:=hok.ok
 refine ⟨⟨h.fit.net,h.fit.orders,h.fit.bookings,h.fit.closed,h.fit.scans,h.fit.skip,h.fit.way⟩,?_⟩
 unfold Zbk at hv hk ⊢
 simp only [Bool.and_eq_true,Bool.not_eq_true',decide_eq_true_iff,decide_eq_false_iff_not] at hv hk ⊢
 obtain ⟨⟨⟨⟨⟨⟨⟨⟨⟨⟨h1,h2⟩,h3⟩,h4⟩,h5⟩,h6⟩,h7⟩,h8⟩,h9⟩,h10⟩,h11⟩:=hv
 obtain ⟨⟨⟨⟨⟨⟨⟨⟨⟨⟨k1,k2⟩,k3⟩,k4⟩,k5⟩,k6⟩,k7⟩,k8⟩,k9⟩,k10⟩,k11⟩:=hk
 refine ⟨⟨⟨⟨⟨⟨⟨⟨⟨⟨h1,⟨by omega,hm⟩⟩,h3⟩,h4⟩,h5⟩,h6⟩,h7⟩,h8⟩,?_⟩,?_⟩,h11⟩
 ·refine ZbI.2 fun j s hj=>?_
  have:=ZbI.1 h9 j s hj
  unfold ZnN at this ⊢
  simp only [Bool.and_eq_true,Bool.not_eq_true',decide_eq_false_iff_not] at this ⊢
  exact ⟨this.1,by omega⟩
 ·refine ZbI.2 fun j o hj=>?_
  have hj':(Zav w u).orders[j]?=some o:=by simp only [Zav,hmap]; exact hj
  have:=ZbI.1 k10 j o hj'
  have e:∀ i,Zeg (Zav w u) i o=Zeg { w with now:=u } i o:=fun i=>rfl
  rw [← e]; exact this
def advV (w:Zd) (u:Int):Zd:={ runV (Zfv w) w u with now:=u }
theorem Zqf {w:Zd} (h:WOk w) {u:Int} (hu:w.now≤u) (hm:u≤100000):WOk (advV w u)∧Zk3 w (advV w u)∧(Zcj (advV w u)<0∨u<Zcj (advV w u)):=by
 obtain ⟨a,b,c,d⟩:=ZtO _ w u h (Nat.le_refl _) hm
 exact ⟨ZrR a (d hu) hm b,⟨c.network,c.bookings,c.closed,c.skip,c.len,c.ord⟩,b⟩
end Go.Proofs.YtmcdjilbkmhfoaaGreat
namespace Go.Proofs.YtmcdjilbkmhfoaaGreat
set_option maxRecDepth 10000
open Go.RowKit
set_option linter.unusedVariables false
set_option maxHeartbeats 16000000
def ZgL (l:List Int) (n:Int) (s0:Int):Option (Int ⊕ (Unit ⊕ Bool)):=
 cond (decide (s0<(l.length:Int)))
 ((getI l s0).bind fun y1=>
 cond (decide (y1=n))
 (some (.inr (.inr true)))
 (some (.inl (w64 (s0+1)))))
 (some (.inr (.inl ())))
instance (l:List Int) (n:Int):ZU (ZgL l n):=⟨fun s0=>(.un::vi n::(U 5 (.sl (l.map cInt)::vi (l.length:Int)::vi s0::(U 7 [])))),fun s0=>[]⟩
def ZfD (l:List Int) (n:Int):Option Bool:=
 (Zl (ZgL l n) NN 0).bind (ZX (fun o0=>
 some false) (fun r=>some r))
instance (l:List Int) (n:Int):CT Tryz.prog (ZfD l n):=⟨204,[.sl (l.map cInt),vi n],[],fun r=>vb r,fun r=>[],fun H=>by replace H:=H0 H; unfold ZfD at H; exact Zh Tryz.func204 rfl Tryz.ntmps204 Tryz.results204 fun Q hQ hQn=>wk3⟩
def ZaO (w:Zd) (s:Zj):Option Zd:=
 (ZfD w.skip (if 1000000000<(w64 (w.made+1)) then 1000000000 else (w64 (w.made+1)))).bind fun y1=>
 cond (!y1)
 (cond (decide ((w.scans.length:Int)<200))
 ((chk (Z1 ((w.scans:List Zj).length+([s]:List Zj).length) 56)).bind fun _=>
 some (⟨w.network,w.orders,w.bookings,w.closed,w.now,((w.scans:List Zj)++[s]),w.skip,(if 1000000000<(w64 (w.made+1)) then 1000000000 else (w64 (w.made+1)))⟩:Zd))
 (some (⟨w.network,w.orders,w.bookings,w.closed,w.now,w.scans,w.skip,(if 1000000000<(w64 (w.made+1)) then 1000000000 else (w64 (w.made+1)))⟩:Zd)))
 (some (⟨w.network,w.orders,w.bookings,w.closed,w.now,w.scans,w.skip,(if 1000000000<(w64 (w.made+1)) then 1000000000 else (w64 (w.made+1)))⟩:Zd))
instance (w:Zd) (s:Zj):CT Tryz.prog (ZaO w s):=⟨138,[.be 0 0 0,.ag (ZF s)],[some ⟨41,10,[[.ms 1,.ms 2,vi w.network.change,.ms 3,.ms 4,.ms 5,vi w.now,.ms 6,.ms 7,vi w.made]]⟩,some ⟨67,6,w.network.legs.map cLeg⟩,some ⟨3,1,w.network.off.map cInt⟩,some ⟨62,11,w.orders.map Zv⟩,some ⟨135,4,w.bookings.map Zg⟩,some ⟨55,2,w.closed.map Zr⟩,some ⟨130,6,w.scans.map ZF⟩,some ⟨3,1,w.skip.map cInt⟩],fun r=>.tu [],fun r=>[some ⟨41,10,[[.ms 1,.ms 2,vi r.network.change,.ms 3,.ms 4,.ms 5,vi r.now,.ms 8,.ms 7,vi r.made]]⟩,some ⟨67,6,r.network.legs.map cLeg⟩,some ⟨3,1,r.network.off.map cInt⟩,some ⟨62,11,r.orders.map Zv⟩,some ⟨135,4,r.bookings.map Zg⟩,some ⟨55,2,r.closed.map Zr⟩,none,some ⟨3,1,r.skip.map cInt⟩,some ⟨130,6,r.scans.map ZF⟩],fun H=>by replace H:=H0 H; unfold ZaO at H; exact Zh Tryz.func138 rfl Tryz.ntmps138 Tryz.results138 fun Q hQ hQn=>wk3⟩
def Zbq (w:Zd) (at1_:Int) (s0:Int × Int × Int × Int × (List YLeg) × (List Int) × (List Zf) × (List Zc) × (List Ze) × (List Int) × (List Zj)):Option ((Int × Int × Int × Int × (List YLeg) × (List Int) × (List Zf) × (List Zc) × (List Ze) × (List Int) × (List Zj)) ⊕ (Int × Int × Int × (List YLeg) × (List Int) × (List Zf) × (List Zc) × (List Ze) × (List Int) × (List Zj))):=
 cond (decide (s0.1<(w.orders.length:Int)))
 ((getI s0.2.2.2.2.2.2.1 s0.1).bind fun y1=>
 cond (!decide (y1.state=2))
 (some (.inl ((w64 (s0.1+1)),s0.2.1,s0.2.2.1,s0.2.2.2.1,s0.2.2.2.2.1,s0.2.2.2.2.2.1,s0.2.2.2.2.2.2.1,s0.2.2.2.2.2.2.2.1,s0.2.2.2.2.2.2.2.2.1,s0.2.2.2.2.2.2.2.2.2.1,s0.2.2.2.2.2.2.2.2.2.2)))
 ((getI y1.way y1.gone).bind fun y2=>
 (ZL (⟨s0.2.2.2.2.1,s0.2.2.2.2.2.1,w.network.change⟩:Za) y2).bind fun y3=>
 cond (!decide (y3=at1_))
 (some (.inl ((w64 (s0.1+1)),s0.2.1,s0.2.2.1,s0.2.2.2.1,s0.2.2.2.2.1,s0.2.2.2.2.2.1,s0.2.2.2.2.2.2.1,s0.2.2.2.2.2.2.2.1,s0.2.2.2.2.2.2.2.2.1,s0.2.2.2.2.2.2.2.2.2.1,s0.2.2.2.2.2.2.2.2.2.2)))
 ((rgI s0.2.2.2.2.2.2.1 s0.1).bind fun y4=>
 (getI y4.way y4.gone).bind fun y5=>
 (rgI s0.2.2.2.2.2.2.1 s0.1).bind fun y6=>
 (getI s0.2.2.2.2.1 y5.leg).bind fun y7=>
 (rgI s0.2.2.2.2.2.2.1 s0.1).bind fun y8=>
 (frzL (s0.2.2.2.2.2.2.1.set (Int.toNat s0.1) (⟨y6.from_,y6.to_,y6.service,y6.weight,y6.at_,y6.due,y6.way,(w64 (y6.gone+1)),1,y7.to_,y6.ended⟩:Zf)) (fun y9=>(.be 0 0 0::vi at1_::.un::.un::.be 9 0 0::vi s0.1::.be 3 (Int.toNat s0.1) 0::.be 10 0 0::(U 10 (vi (w.orders.length:Int)::vi s0.1::(U 167 []))))) (fun y9=>[some ⟨41,10,[[.ms 1,.ms 2,vi s0.2.1,.ms 3,.ms 4,.ms 5,vi s0.2.2.1,.ms 8,.ms 7,vi s0.2.2.2.1]]⟩,some ⟨67,6,s0.2.2.2.2.1.map cLeg⟩,some ⟨3,1,s0.2.2.2.2.2.1.map cInt⟩,some ⟨62,11,y9.map Zv⟩,some ⟨135,4,s0.2.2.2.2.2.2.2.1.map Zg⟩,some ⟨55,2,s0.2.2.2.2.2.2.2.2.1.map Zr⟩,none,some ⟨3,1,s0.2.2.2.2.2.2.2.2.2.1.map cInt⟩,some ⟨130,6,s0.2.2.2.2.2.2.2.2.2.2.map ZF⟩,some ⟨35,3,[[.ms 1,.ms 2,vi w.network.change]]⟩,some ⟨55,2,[[vi y5.leg,vi y5.day]]⟩])).bind fun y9=>
 (rhoM [0,1,2,3,4,5,8,7]).bind fun _=>
 (ZaO (⟨(⟨s0.2.2.2.2.1,s0.2.2.2.2.2.1,s0.2.1⟩:Za),y9,s0.2.2.2.2.2.2.2.1,s0.2.2.2.2.2.2.2.2.1,s0.2.2.1,s0.2.2.2.2.2.2.2.2.2.2,s0.2.2.2.2.2.2.2.2.2.1,s0.2.2.2.1⟩:Zd) (⟨(w64 (s0.1+1)),at1_,2,⟨#[]⟩,y5⟩:Zj)).bind fun y10=>
 (rgI y10.orders s0.1).bind fun y11=>
 cond (decide (y11.place=y11.to_))
 ((frzL (y10.orders.set (Int.toNat s0.1) (⟨y11.from_,y11.to_,y11.service,y11.weight,y11.at_,y11.due,y11.way,y11.gone,3,y11.place,at1_⟩:Zf)) (fun y12=>(.be 0 0 0::vi at1_::.un::.un::.be 9 0 0::vi s0.1::.be 3 (Int.toNat s0.1) 0::(U 11 (vi (w.orders.length:Int)::vi s0.1::(U 167 []))))) (fun y12=>[some ⟨41,10,[[.ms 1,.ms 2,vi y10.network.change,.ms 3,.ms 4,.ms 5,vi y10.now,.ms 8,.ms 7,vi y10.made]]⟩,some ⟨67,6,y10.network.legs.map cLeg⟩,some ⟨3,1,y10.network.off.map cInt⟩,some ⟨62,11,y12.map Zv⟩,some ⟨135,4,y10.bookings.map Zg⟩,some ⟨55,2,y10.closed.map Zr⟩,none,some ⟨3,1,y10.skip.map cInt⟩,some ⟨130,6,y10.scans.map ZF⟩,some ⟨35,3,[[.ms 1,.ms 2,vi w.network.change]]⟩])).bind fun y12=>
 (rgI y12 s0.1).bind fun y13=>
 (rhoM [0,1,2,3,4,5,8,7]).bind fun _=>
 (ZaO (⟨y10.network,y12,y10.bookings,y10.closed,y10.now,y10.scans,y10.skip,y10.made⟩:Zd) (⟨(w64 (s0.1+1)),at1_,4,y13.place,(⟨0,0⟩:Ze)⟩:Zj)).bind fun y14=>
 some (.inl ((w64 (s0.1+1)),y14.network.change,y14.now,y14.made,y14.network.legs,y14.network.off,y14.orders,y14.bookings,y14.closed,y14.skip,y14.scans)))
 (some (.inl ((w64 (s0.1+1)),y10.network.change,y10.now,y10.made,y10.network.legs,y10.network.off,y10.orders,y10.bookings,y10.closed,y10.skip,y10.scans))))))
 (some (.inr (s0.2.1,s0.2.2.1,s0.2.2.2.1,s0.2.2.2.2.1,s0.2.2.2.2.2.1,s0.2.2.2.2.2.2.1,s0.2.2.2.2.2.2.2.1,s0.2.2.2.2.2.2.2.2.1,s0.2.2.2.2.2.2.2.2.2.1,s0.2.2.2.2.2.2.2.2.2.2)))
instance (w:Zd) (at1_:Int):ZU (Zbq w at1_):=⟨fun s0=>(.be 0 0 0::vi at1_::.un::.un::.be 9 0 0::(U 13 (vi (w.orders.length:Int)::vi s0.1::(U 167 [])))),fun s0=>[some ⟨41,10,[[.ms 1,.ms 2,vi s0.2.1,.ms 3,.ms 4,.ms 5,vi s0.2.2.1,.ms 8,.ms 7,vi s0.2.2.2.1]]⟩,some ⟨67,6,s0.2.2.2.2.1.map cLeg⟩,some ⟨3,1,s0.2.2.2.2.2.1.map cInt⟩,some ⟨62,11,s0.2.2.2.2.2.2.1.map Zv⟩,some ⟨135,4,s0.2.2.2.2.2.2.2.1.map Zg⟩,some ⟨55,2,s0.2.2.2.2.2.2.2.2.1.map Zr⟩,none,some ⟨3,1,s0.2.2.2.2.2.2.2.2.2.1.map cInt⟩,some ⟨130,6,s0.2.2.2.2.2.2.2.2.2.2.map ZF⟩,some ⟨35,3,[[.ms 1,.ms 2,vi w.network.change]]⟩]⟩
def Zbr (w:Zd) (at1_:Int) (o0:Int × Int × Int × (List YLeg) × (List Int) × (List Zf) × (List Zc) × (List Ze) × (List Int) × (List Zj)) (s1:Int × Int × Int × Int × (List YLeg) × (List Int) × (List Zf) × (List Zc) × (List Ze) × (List Int) × (List Zj)):Option ((Int × Int × Int × Int × (List YLeg) × (List Int) × (List Zf) × (List Zc) × (List Ze) × (List Int) × (List Zj)) ⊕ (Int × Int × Int × (List YLeg) × (List Int) × (List Zf) × (List Zc) × (List Ze) × (List Int) × (List Zj))):=
 cond (decide (s1.1<(o0.2.2.2.2.2.1.length:Int)))
 ((getI s1.2.2.2.2.2.2.1 s1.1).bind fun y15=>
 cond (decide (y15.state=1))
 (cond (decide (y15.gone<(y15.way.length:Int)))
 ((getI y15.way y15.gone).bind fun y16=>
 (ZI (⟨s1.2.2.2.2.1,s1.2.2.2.2.2.1,w.network.change⟩:Za) y16).bind fun y17=>
 cond (decide (y17=at1_))
 ((rgI s1.2.2.2.2.2.2.1 s1.1).bind fun y18=>
 (frzL (s1.2.2.2.2.2.2.1.set (Int.toNat s1.1) (⟨y18.from_,y18.to_,y18.service,y18.weight,y18.at_,y18.due,y18.way,y18.gone,2,⟨#[]⟩,y18.ended⟩:Zf)) (fun y19=>(.be 0 0 0::vi at1_::.un::.un::.be 9 0 0::(U 3 (vi s1.1::.be 3 (Int.toNat s1.1) 0::(U 107 (vi (o0.2.2.2.2.2.1.length:Int)::vi s1.1::(U 68 []))))))) (fun y19=>[some ⟨41,10,[[.ms 1,.ms 2,vi s1.2.1,.ms 3,.ms 4,.ms 5,vi s1.2.2.1,.ms 8,.ms 7,vi s1.2.2.2.1]]⟩,some ⟨67,6,s1.2.2.2.2.1.map cLeg⟩,some ⟨3,1,s1.2.2.2.2.2.1.map cInt⟩,some ⟨62,11,y19.map Zv⟩,some ⟨135,4,s1.2.2.2.2.2.2.2.1.map Zg⟩,some ⟨55,2,s1.2.2.2.2.2.2.2.2.1.map Zr⟩,none,some ⟨3,1,s1.2.2.2.2.2.2.2.2.2.1.map cInt⟩,some ⟨130,6,s1.2.2.2.2.2.2.2.2.2.2.map ZF⟩,some ⟨35,3,[[.ms 1,.ms 2,vi w.network.change]]⟩])).bind fun y19=>
 (drwL 8 [15]).bind fun _=>
 (rgI y19 s1.1).bind fun y20=>
 (getI y20.way y20.gone).bind fun y21=>
 (rhoM [0,1,2,3,4,5,8,7]).bind fun _=>
 (ZaO (⟨(⟨s1.2.2.2.2.1,s1.2.2.2.2.2.1,s1.2.1⟩:Za),y19,s1.2.2.2.2.2.2.2.1,s1.2.2.2.2.2.2.2.2.1,s1.2.2.1,s1.2.2.2.2.2.2.2.2.2.2,s1.2.2.2.2.2.2.2.2.2.1,s1.2.2.2.1⟩:Zd) (⟨(w64 (s1.1+1)),at1_,3,⟨#[]⟩,y21⟩:Zj)).bind fun y22=>
 some (.inl ((w64 (s1.1+1)),y22.network.change,y22.now,y22.made,y22.network.legs,y22.network.off,y22.orders,y22.bookings,y22.closed,y22.skip,y22.scans)))
 (some (.inl ((w64 (s1.1+1)),s1.2.1,s1.2.2.1,s1.2.2.2.1,s1.2.2.2.2.1,s1.2.2.2.2.2.1,s1.2.2.2.2.2.2.1,s1.2.2.2.2.2.2.2.1,s1.2.2.2.2.2.2.2.2.1,s1.2.2.2.2.2.2.2.2.2.1,s1.2.2.2.2.2.2.2.2.2.2))))
 (some (.inl ((w64 (s1.1+1)),s1.2.1,s1.2.2.1,s1.2.2.2.1,s1.2.2.2.2.1,s1.2.2.2.2.2.1,s1.2.2.2.2.2.2.1,s1.2.2.2.2.2.2.2.1,s1.2.2.2.2.2.2.2.2.1,s1.2.2.2.2.2.2.2.2.2.1,s1.2.2.2.2.2.2.2.2.2.2))))
 (some (.inl ((w64 (s1.1+1)),s1.2.1,s1.2.2.1,s1.2.2.2.1,s1.2.2.2.2.1,s1.2.2.2.2.2.1,s1.2.2.2.2.2.2.1,s1.2.2.2.2.2.2.2.1,s1.2.2.2.2.2.2.2.2.1,s1.2.2.2.2.2.2.2.2.2.1,s1.2.2.2.2.2.2.2.2.2.2))))
 (some (.inr (s1.2.1,s1.2.2.1,s1.2.2.2.1,s1.2.2.2.2.1,s1.2.2.2.2.2.1,s1.2.2.2.2.2.2.1,s1.2.2.2.2.2.2.2.1,s1.2.2.2.2.2.2.2.2.1,s1.2.2.2.2.2.2.2.2.2.1,s1.2.2.2.2.2.2.2.2.2.2)))
instance (w:Zd) (at1_:Int) (o0:Int × Int × Int × (List YLeg) × (List Int) × (List Zf) × (List Zc) × (List Ze) × (List Int) × (List Zj)):ZU (Zbr w at1_ o0):=⟨fun s1=>(.be 0 0 0::vi at1_::.un::.un::.be 9 0 0::(U 112 (vi (o0.2.2.2.2.2.1.length:Int)::vi s1.1::(U 68 [])))),fun s1=>[some ⟨41,10,[[.ms 1,.ms 2,vi s1.2.1,.ms 3,.ms 4,.ms 5,vi s1.2.2.1,.ms 8,.ms 7,vi s1.2.2.2.1]]⟩,some ⟨67,6,s1.2.2.2.2.1.map cLeg⟩,some ⟨3,1,s1.2.2.2.2.2.1.map cInt⟩,some ⟨62,11,s1.2.2.2.2.2.2.1.map Zv⟩,some ⟨135,4,s1.2.2.2.2.2.2.2.1.map Zg⟩,some ⟨55,2,s1.2.2.2.2.2.2.2.2.1.map Zr⟩,none,some ⟨3,1,s1.2.2.2.2.2.2.2.2.2.1.map cInt⟩,some ⟨130,6,s1.2.2.2.2.2.2.2.2.2.2.map ZF⟩,some ⟨35,3,[[.ms 1,.ms 2,vi w.network.change]]⟩]⟩
def Zdr (w:Zd) (at1_:Int):Option Zd:=
 (Zl (Zbq w at1_) NN (0,w.network.change,w.now,w.made,w.network.legs,w.network.off,w.orders,w.bookings,w.closed,w.skip,w.scans)).bind (fun o0=>
 (Zl (Zbr w at1_ o0) NN (0,o0.1,o0.2.1,o0.2.2.1,o0.2.2.2.1,o0.2.2.2.2.1,o0.2.2.2.2.2.1,o0.2.2.2.2.2.2.1,o0.2.2.2.2.2.2.2.1,o0.2.2.2.2.2.2.2.2.1,o0.2.2.2.2.2.2.2.2.2)).bind (fun o1=>
 some (⟨(⟨o1.2.2.2.1,o1.2.2.2.2.1,o1.1⟩:Za),o1.2.2.2.2.2.1,o1.2.2.2.2.2.2.1,o1.2.2.2.2.2.2.2.1,at1_,o1.2.2.2.2.2.2.2.2.2,o1.2.2.2.2.2.2.2.2.1,o1.2.2.1⟩:Zd)))
instance (w:Zd) (at1_:Int):CT Tryz.prog (Zdr w at1_):=⟨83,[.be 0 0 0,vi at1_],[some ⟨41,10,[[.ms 1,.ms 2,vi w.network.change,.ms 3,.ms 4,.ms 5,vi w.now,.ms 6,.ms 7,vi w.made]]⟩,some ⟨67,6,w.network.legs.map cLeg⟩,some ⟨3,1,w.network.off.map cInt⟩,some ⟨62,11,w.orders.map Zv⟩,some ⟨135,4,w.bookings.map Zg⟩,some ⟨55,2,w.closed.map Zr⟩,some ⟨130,6,w.scans.map ZF⟩,some ⟨3,1,w.skip.map cInt⟩],fun r=>.tu [],fun r=>[some ⟨41,10,[[.ms 1,.ms 2,vi r.network.change,.ms 3,.ms 4,.ms 5,vi r.now,.ms 8,.ms 7,vi r.made]]⟩,some ⟨67,6,r.network.legs.map cLeg⟩,some ⟨3,1,r.network.off.map cInt⟩,some ⟨62,11,r.orders.map Zv⟩,some ⟨135,4,r.bookings.map Zg⟩,some ⟨55,2,r.closed.map Zr⟩,none,some ⟨3,1,r.skip.map cInt⟩,some ⟨130,6,r.scans.map ZF⟩],fun H=>by replace H:=H0 H; unfold Zdr at H; exact Zh Tryz.func83 rfl Tryz.ntmps83 Tryz.results83 fun Q hQ hQn=>wk3⟩
def Zat (w:Zd) (s:Zj):Option Zd:=
 cond (decide (w.made<1000000000))
 ((Zdc w.skip (w64 (w.made+1))).bind fun y1=>
 cond (!y1)
 (cond (decide ((w.scans.length:Int)<200))
 ((chk (Z1 ((w.scans:List Zj).length+([s]:List Zj).length) 56)).bind fun _=>
 some (⟨w.network,w.orders,w.bookings,w.closed,w.now,((w.scans:List Zj)++[s]),w.skip,(w64 (w.made+1))⟩:Zd))
 (some (⟨w.network,w.orders,w.bookings,w.closed,w.now,w.scans,w.skip,(w64 (w.made+1))⟩:Zd)))
 (some (⟨w.network,w.orders,w.bookings,w.closed,w.now,w.scans,w.skip,(w64 (w.made+1))⟩:Zd)))
 ((Zdc w.skip w.made).bind fun y2=>
 cond (!y2)
 (cond (decide ((w.scans.length:Int)<200))
 ((chk (Z1 ((w.scans:List Zj).length+([s]:List Zj).length) 56)).bind fun _=>
 some (⟨w.network,w.orders,w.bookings,w.closed,w.now,((w.scans:List Zj)++[s]),w.skip,w.made⟩:Zd))
 (some w))
 (some w))
instance (w:Zd) (s:Zj):CT Tryz.prog (Zat w s):=⟨133,[.be 0 0 0,.ag (ZF s)],[some ⟨41,10,[[.ms 1,.ms 2,vi w.network.change,.ms 3,.ms 4,.ms 5,vi w.now,.ms 6,.ms 7,vi w.made]]⟩,some ⟨67,6,w.network.legs.map cLeg⟩,some ⟨3,1,w.network.off.map cInt⟩,some ⟨62,11,w.orders.map Zv⟩,some ⟨135,4,w.bookings.map Zg⟩,some ⟨55,2,w.closed.map Zr⟩,some ⟨130,6,w.scans.map ZF⟩,some ⟨3,1,w.skip.map cInt⟩],fun r=>.tu [],fun r=>[some ⟨41,10,[[.ms 1,.ms 2,vi r.network.change,.ms 3,.ms 4,.ms 5,vi r.now,.ms 8,.ms 7,vi r.made]]⟩,some ⟨67,6,r.network.legs.map cLeg⟩,some ⟨3,1,r.network.off.map cInt⟩,some ⟨62,11,r.orders.map Zv⟩,some ⟨135,4,r.bookings.map Zg⟩,some ⟨55,2,r.closed.map Zr⟩,none,some ⟨3,1,r.skip.map cInt⟩,some ⟨130,6,r.scans.map ZF⟩],fun H=>by replace H:=H0 H; unfold Zat at H; exact Zh Tryz.func133 rfl Tryz.ntmps133 Tryz.results133 fun Q hQ hQn=>wk3⟩
def ZbR (at1_:Int) (s0:Int × Int × Int × Int × (List YLeg) × (List Int) × (List Zf) × (List Zc) × (List Ze) × (List Int) × (List Zj)):Option ((Int × Int × Int × Int × (List YLeg) × (List Int) × (List Zf) × (List Zc) × (List Ze) × (List Int) × (List Zj)) ⊕ (Int × Int × Int × (List YLeg) × (List Int) × (List Zf) × (List Zc) × (List Ze) × (List Int) × (List Zj))):=
 cond (decide (s0.1<(s0.2.2.2.2.2.2.1.length:Int)))
 ((getI s0.2.2.2.2.2.2.1 s0.1).bind fun y1=>
 cond (!decide (y1.state=2))
 (some (.inl ((w64 (s0.1+1)),s0.2.1,s0.2.2.1,s0.2.2.2.1,s0.2.2.2.2.1,s0.2.2.2.2.2.1,s0.2.2.2.2.2.2.1,s0.2.2.2.2.2.2.2.1,s0.2.2.2.2.2.2.2.2.1,s0.2.2.2.2.2.2.2.2.2.1,s0.2.2.2.2.2.2.2.2.2.2)))
 ((getI y1.way y1.gone).bind fun y2=>
 (Zn (⟨s0.2.2.2.2.1,s0.2.2.2.2.2.1,s0.2.1⟩:Za) y2).bind fun y3=>
 cond (!decide (y3=at1_))
 (some (.inl ((w64 (s0.1+1)),s0.2.1,s0.2.2.1,s0.2.2.2.1,s0.2.2.2.2.1,s0.2.2.2.2.2.1,s0.2.2.2.2.2.2.1,s0.2.2.2.2.2.2.2.1,s0.2.2.2.2.2.2.2.2.1,s0.2.2.2.2.2.2.2.2.2.1,s0.2.2.2.2.2.2.2.2.2.2)))
 ((getI y1.way y1.gone).bind fun y4=>
 (rhoM [0,1,2,3,4,5,8,7]).bind fun _=>
 (Zat (⟨(⟨s0.2.2.2.2.1,s0.2.2.2.2.2.1,s0.2.1⟩:Za),s0.2.2.2.2.2.2.1,s0.2.2.2.2.2.2.2.1,s0.2.2.2.2.2.2.2.2.1,s0.2.2.1,s0.2.2.2.2.2.2.2.2.2.2,s0.2.2.2.2.2.2.2.2.2.1,s0.2.2.2.1⟩:Zd) (⟨(w64 (s0.1+1)),at1_,2,⟨#[]⟩,y4⟩:Zj)).bind fun y5=>
 (getI y1.way y1.gone).bind fun y6=>
 (getI y5.network.legs y6.leg).bind fun y7=>
 (getI y5.orders s0.1).bind fun y8=>
 (getI y5.orders s0.1).bind fun y9=>
 (getI y5.orders s0.1).bind fun y10=>
 (getI y5.orders s0.1).bind fun y11=>
 cond (decide (y7.to_=y1.to_))
 ((getI y5.orders s0.1).bind fun y12=>
 (getI y5.orders s0.1).bind fun y13=>
 (frzL (y5.orders.set (Int.toNat s0.1) (⟨y8.from_,y8.to_,y8.service,y8.weight,y8.at_,y8.due,y8.way,(w64 (y1.gone+1)),3,y7.to_,at1_⟩:Zf)) (fun y14=>(.be 0 0 0::vi at1_::.un::.un::vi s0.1::.be 9 0 0::(U 193 []))) (fun y14=>[some ⟨41,10,[[.ms 1,.ms 2,vi y5.network.change,.ms 3,.ms 4,.ms 5,vi y5.now,.ms 8,.ms 7,vi y5.made]]⟩,some ⟨67,6,y5.network.legs.map cLeg⟩,some ⟨3,1,y5.network.off.map cInt⟩,some ⟨62,11,y14.map Zv⟩,some ⟨135,4,y5.bookings.map Zg⟩,some ⟨55,2,y5.closed.map Zr⟩,none,some ⟨3,1,y5.skip.map cInt⟩,some ⟨130,6,y5.scans.map ZF⟩,some ⟨62,11,[[vs y1.from_,vs y1.to_,vi y1.service,vi y1.weight,vi y1.at_,vi y1.due,.sl (y1.way.map Zr),vi y1.gone,vi y1.state,vs y1.place,vi y1.ended]]⟩])).bind fun y14=>
 (rhoM [0,1,2,3,4,5,8,7]).bind fun _=>
 (Zat (⟨y5.network,y14,y5.bookings,y5.closed,y5.now,y5.scans,y5.skip,y5.made⟩:Zd) (⟨(w64 (s0.1+1)),at1_,4,y1.to_,(⟨0,0⟩:Ze)⟩:Zj)).bind fun y15=>
 some (.inl ((w64 (s0.1+1)),y15.network.change,y15.now,y15.made,y15.network.legs,y15.network.off,y15.orders,y15.bookings,y15.closed,y15.skip,y15.scans)))
 (some (.inl ((w64 (s0.1+1)),y5.network.change,y5.now,y5.made,y5.network.legs,y5.network.off,(y5.orders.set (Int.toNat s0.1) (⟨y8.from_,y8.to_,y8.service,y8.weight,y8.at_,y8.due,y8.way,(w64 (y1.gone+1)),1,y7.to_,y8.ended⟩:Zf)),y5.bookings,y5.closed,y5.skip,y5.scans))))))
 (some (.inr (s0.2.1,s0.2.2.1,s0.2.2.2.1,s0.2.2.2.2.1,s0.2.2.2.2.2.1,s0.2.2.2.2.2.2.1,s0.2.2.2.2.2.2.2.1,s0.2.2.2.2.2.2.2.2.1,s0.2.2.2.2.2.2.2.2.2.1,s0.2.2.2.2.2.2.2.2.2.2)))
instance (at1_:Int):ZU (ZbR at1_):=⟨fun s0=>(.be 0 0 0::vi at1_::.un::.un::vi s0.1::(U 194 [])),fun s0=>[some ⟨41,10,[[.ms 1,.ms 2,vi s0.2.1,.ms 3,.ms 4,.ms 5,vi s0.2.2.1,.ms 8,.ms 7,vi s0.2.2.2.1]]⟩,some ⟨67,6,s0.2.2.2.2.1.map cLeg⟩,some ⟨3,1,s0.2.2.2.2.2.1.map cInt⟩,some ⟨62,11,s0.2.2.2.2.2.2.1.map Zv⟩,some ⟨135,4,s0.2.2.2.2.2.2.2.1.map Zg⟩,some ⟨55,2,s0.2.2.2.2.2.2.2.2.1.map Zr⟩,none,some ⟨3,1,s0.2.2.2.2.2.2.2.2.2.1.map cInt⟩,some ⟨130,6,s0.2.2.2.2.2.2.2.2.2.2.map ZF⟩]⟩
def ZbS (at1_:Int) (s1:Int × Int × Int × Int × (List YLeg) × (List Int) × (List Zf) × (List Zc) × (List Ze) × (List Int) × (List Zj)):Option ((Int × Int × Int × Int × (List YLeg) × (List Int) × (List Zf) × (List Zc) × (List Ze) × (List Int) × (List Zj)) ⊕ (Int × Int × Int × (List YLeg) × (List Int) × (List Zf) × (List Zc) × (List Ze) × (List Int) × (List Zj))):=
 cond (decide (s1.1<(s1.2.2.2.2.2.2.1.length:Int)))
 ((getI s1.2.2.2.2.2.2.1 s1.1).bind fun y16=>
 cond (decide (y16.state=1))
 (cond (decide (y16.gone<(y16.way.length:Int)))
 ((getI y16.way y16.gone).bind fun y17=>
 (Zo (⟨s1.2.2.2.2.1,s1.2.2.2.2.2.1,s1.2.1⟩:Za) y17).bind fun y18=>
 cond (decide (y18=at1_))
 ((getI s1.2.2.2.2.2.2.1 s1.1).bind fun y19=>
 (getI s1.2.2.2.2.2.2.1 s1.1).bind fun y20=>
 (frzL (s1.2.2.2.2.2.2.1.set (Int.toNat s1.1) (⟨y19.from_,y19.to_,y19.service,y19.weight,y19.at_,y19.due,y19.way,y19.gone,2,⟨#[]⟩,y19.ended⟩:Zf)) (fun y21=>(.be 0 0 0::vi at1_::(U 4 (vi s1.1::.be 9 0 0::(U 191 []))))) (fun y21=>[some ⟨41,10,[[.ms 1,.ms 2,vi s1.2.1,.ms 3,.ms 4,.ms 5,vi s1.2.2.1,.ms 8,.ms 7,vi s1.2.2.2.1]]⟩,some ⟨67,6,s1.2.2.2.2.1.map cLeg⟩,some ⟨3,1,s1.2.2.2.2.2.1.map cInt⟩,some ⟨62,11,y21.map Zv⟩,some ⟨135,4,s1.2.2.2.2.2.2.2.1.map Zg⟩,some ⟨55,2,s1.2.2.2.2.2.2.2.2.1.map Zr⟩,none,some ⟨3,1,s1.2.2.2.2.2.2.2.2.2.1.map cInt⟩,some ⟨130,6,s1.2.2.2.2.2.2.2.2.2.2.map ZF⟩,some ⟨62,11,[[vs y16.from_,vs y16.to_,vi y16.service,vi y16.weight,vi y16.at_,vi y16.due,.sl (y16.way.map Zr),vi y16.gone,vi y16.state,vs y16.place,vi y16.ended]]⟩])).bind fun y21=>
 (getI y16.way y16.gone).bind fun y22=>
 (rhoM [0,1,2,3,4,5,8,7]).bind fun _=>
 (Zat (⟨(⟨s1.2.2.2.2.1,s1.2.2.2.2.2.1,s1.2.1⟩:Za),y21,s1.2.2.2.2.2.2.2.1,s1.2.2.2.2.2.2.2.2.1,s1.2.2.1,s1.2.2.2.2.2.2.2.2.2.2,s1.2.2.2.2.2.2.2.2.2.1,s1.2.2.2.1⟩:Zd) (⟨(w64 (s1.1+1)),at1_,3,⟨#[]⟩,y22⟩:Zj)).bind fun y23=>
 some (.inl ((w64 (s1.1+1)),y23.network.change,y23.now,y23.made,y23.network.legs,y23.network.off,y23.orders,y23.bookings,y23.closed,y23.skip,y23.scans)))
 (some (.inl ((w64 (s1.1+1)),s1.2.1,s1.2.2.1,s1.2.2.2.1,s1.2.2.2.2.1,s1.2.2.2.2.2.1,s1.2.2.2.2.2.2.1,s1.2.2.2.2.2.2.2.1,s1.2.2.2.2.2.2.2.2.1,s1.2.2.2.2.2.2.2.2.2.1,s1.2.2.2.2.2.2.2.2.2.2))))
 (some (.inl ((w64 (s1.1+1)),s1.2.1,s1.2.2.1,s1.2.2.2.1,s1.2.2.2.2.1,s1.2.2.2.2.2.1,s1.2.2.2.2.2.2.1,s1.2.2.2.2.2.2.2.1,s1.2.2.2.2.2.2.2.2.1,s1.2.2.2.2.2.2.2.2.2.1,s1.2.2.2.2.2.2.2.2.2.2))))
 (some (.inl ((w64 (s1.1+1)),s1.2.1,s1.2.2.1,s1.2.2.2.1,s1.2.2.2.2.1,s1.2.2.2.2.2.1,s1.2.2.2.2.2.2.1,s1.2.2.2.2.2.2.2.1,s1.2.2.2.2.2.2.2.2.1,s1.2.2.2.2.2.2.2.2.2.1,s1.2.2.2.2.2.2.2.2.2.2))))
 (some (.inr (s1.2.1,s1.2.2.1,s1.2.2.2.1,s1.2.2.2.2.1,s1.2.2.2.2.2.1,s1.2.2.2.2.2.2.1,s1.2.2.2.2.2.2.2.1,s1.2.2.2.2.2.2.2.2.1,s1.2.2.2.2.2.2.2.2.2.1,s1.2.2.2.2.2.2.2.2.2.2)))
instance (at1_:Int):ZU (ZbS at1_):=⟨fun s1=>(.be 0 0 0::vi at1_::(U 4 (vi s1.1::(U 192 [])))),fun s1=>[some ⟨41,10,[[.ms 1,.ms 2,vi s1.2.1,.ms 3,.ms 4,.ms 5,vi s1.2.2.1,.ms 8,.ms 7,vi s1.2.2.2.1]]⟩,some ⟨67,6,s1.2.2.2.2.1.map cLeg⟩,some ⟨3,1,s1.2.2.2.2.2.1.map cInt⟩,some ⟨62,11,s1.2.2.2.2.2.2.1.map Zv⟩,some ⟨135,4,s1.2.2.2.2.2.2.2.1.map Zg⟩,some ⟨55,2,s1.2.2.2.2.2.2.2.2.1.map Zr⟩,none,some ⟨3,1,s1.2.2.2.2.2.2.2.2.2.1.map cInt⟩,some ⟨130,6,s1.2.2.2.2.2.2.2.2.2.2.map ZF⟩]⟩
def ZdU (w:Zd) (at1_:Int):Option Zd:=
 (Zl (ZbR at1_) NN (0,w.network.change,w.now,w.made,w.network.legs,w.network.off,w.orders,w.bookings,w.closed,w.skip,w.scans)).bind (fun o0=>
 (Zl (ZbS at1_) NN (0,o0.1,o0.2.1,o0.2.2.1,o0.2.2.2.1,o0.2.2.2.2.1,o0.2.2.2.2.2.1,o0.2.2.2.2.2.2.1,o0.2.2.2.2.2.2.2.1,o0.2.2.2.2.2.2.2.2.1,o0.2.2.2.2.2.2.2.2.2)).bind (fun o1=>
 some (⟨(⟨o1.2.2.2.1,o1.2.2.2.2.1,o1.1⟩:Za),o1.2.2.2.2.2.1,o1.2.2.2.2.2.2.1,o1.2.2.2.2.2.2.2.1,at1_,o1.2.2.2.2.2.2.2.2.2,o1.2.2.2.2.2.2.2.2.1,o1.2.2.1⟩:Zd)))
instance (w:Zd) (at1_:Int):CT Tryz.prog (ZdU w at1_):=⟨73,[.be 0 0 0,vi at1_],[some ⟨41,10,[[.ms 1,.ms 2,vi w.network.change,.ms 3,.ms 4,.ms 5,vi w.now,.ms 6,.ms 7,vi w.made]]⟩,some ⟨67,6,w.network.legs.map cLeg⟩,some ⟨3,1,w.network.off.map cInt⟩,some ⟨62,11,w.orders.map Zv⟩,some ⟨135,4,w.bookings.map Zg⟩,some ⟨55,2,w.closed.map Zr⟩,some ⟨130,6,w.scans.map ZF⟩,some ⟨3,1,w.skip.map cInt⟩],fun r=>.tu [],fun r=>[some ⟨41,10,[[.ms 1,.ms 2,vi r.network.change,.ms 3,.ms 4,.ms 5,vi r.now,.ms 8,.ms 7,vi r.made]]⟩,some ⟨67,6,r.network.legs.map cLeg⟩,some ⟨3,1,r.network.off.map cInt⟩,some ⟨62,11,r.orders.map Zv⟩,some ⟨135,4,r.bookings.map Zg⟩,some ⟨55,2,r.closed.map Zr⟩,none,some ⟨3,1,r.skip.map cInt⟩,some ⟨130,6,r.scans.map ZF⟩],fun H=>by replace H:=H0 H; unfold ZdU at H; exact Zh Tryz.func73 rfl Tryz.ntmps73 Tryz.results73 fun Q hQ hQn=>wk3⟩
end Go.Proofs.YtmcdjilbkmhfoaaGreat
namespace Go.Proofs.YtmcdjilbkmhfoaaGreat
set_option maxRecDepth 10000
open Go.RowKit
set_option linter.unusedVariables false
set_option linter.unusedSimpArgs false
set_option linter.unusedSectionVars false
theorem ZqN:@ZfD=@Zdc:=rfl
def Zbl (w:Zd) (s:Zj):Zd:={ w with scans:=(Zdd w.skip (w.scans,w.made) s).1,made:=(Zdd w.skip (w.scans,w.made) s).2 }
structure Zfq (w:Zd):Prop where
 skip:w.skip.length≤1048576
 len:w.scans.length≤200
 made:0≤w.made∧w.made≤1000000000
theorem ZeD {a b c:Nat} (h:a+b≤1048576) (hc:c≤1024):chk (Z1 (a+b) c)=some ():=by
 refine Zni ?_
 unfold Z1
 refine decide_eq_true ⟨by omega,?_⟩
 have:(a+b)*c≤1048576*1024:=Nat.mul_le_mul h hc
 omega
theorem Zuu {α:Type} {c:Prop} [Decidable c] {l:List α} {s:α} (h:c→l.length<200) (h2:l.length≤200):(if c then l++[s] else l).length≤200:=by
 by_cases hc:c
 ·have:=h hc; rw [if_pos hc]; simp; omega
 ·rw [if_neg hc]; exact h2
theorem Zhy {w:Zd} (h:Zfq w) (s:Zj):Zfq (Zbl w s):=by
 obtain ⟨h1,h2,h3⟩:=h
 unfold Zbl Zdd
 refine ⟨h1,?_,?_⟩
 ·exact Zuu (fun h=>h.2) h2
 ·simp only
  split <;> omega
theorem ZoS {w:Zd} (h:Zfq w) (s:Zj):ZaO w s=some (Zbl w s):=by
 obtain ⟨h1,h2,h3⟩:=h
 have hw:w64 (w.made+1)=w.made+1:=Zp (by omega)
 have hm:(if 1000000000<w.made+1 then 1000000000 else w.made+1)=(if w.made<1000000000 then w.made+1 else w.made):=by split <;> split <;> omega
 have ha:=ZeD (a:=w.scans.length) (b:=1) (c:=56) (by omega) (by omega)
 unfold ZaO Zbl Zdd
 rw [hw,hm,ZqN,Zli h1]
 simp only [Option.bind_some,List.length_cons,List.length_nil,Nat.zero_add,ha]
 cases hb:w.skip.any fun y=>decide (y=if w.made<1000000000 then w.made+1 else w.made) with
 | true=>simp
 | false=>
  by_cases hl:w.scans.length<200
  ·rw [decide_eq_true (show (w.scans.length:Int)<200 by omega)]; simp [hl]
  ·rw [decide_eq_false (show ¬ (w.scans.length:Int)<200 by omega)]; simp [hl]
theorem ZrM {w:Zd} (h:Zfq w) (s:Zj):Zat w s=some (Zbl w s):=by
 obtain ⟨h1,h2,h3⟩:=h
 have hw:w64 (w.made+1)=w.made+1:=Zp (by omega)
 have ha:=ZeD (a:=w.scans.length) (b:=1) (c:=56) (by omega) (by omega)
 unfold Zat Zbl Zdd
 rw [hw]
 simp only [Zli h1,Option.bind_some,List.length_cons,List.length_nil,Nat.zero_add,ha]
 by_cases hm:w.made<1000000000
 ·rw [decide_eq_true hm,cond_true]
  simp only [if_pos hm]
  cases hb:w.skip.any fun y=>decide (y=w.made+1) with
  | true=>simp
  | false=>
   by_cases hl:w.scans.length<200
   ·rw [decide_eq_true (show (w.scans.length:Int)<200 by omega)]; simp [hl]
   ·rw [decide_eq_false (show ¬ (w.scans.length:Int)<200 by omega)]; simp [hl]
 ·rw [decide_eq_false hm,cond_false]
  simp only [if_neg hm]
  cases hb:w.skip.any fun y=>decide (y=w.made) with
  | true=>simp
  | false=>
   by_cases hl:w.scans.length<200
   ·rw [decide_eq_true (show (w.scans.length:Int)<200 by omega)]; simp [hl]
   ·rw [decide_eq_false (show ¬ (w.scans.length:Int)<200 by omega)]; simp [hl]
abbrev OwT:=Int × Int × Int × (List YLeg) × (List Int) × (List Zf) × (List Zc) × (List Ze) × (List Int) × (List Zj)
def owT (w:Zd):OwT:=(w.network.change,w.now,w.made,w.network.legs,w.network.off,w.orders,w.bookings,w.closed,w.skip,w.scans)
def twT (i:Int) (w:Zd):Int × OwT:=(i,owT w)
def ZbH (w:Zd) (l:List Zj):Zd:=l.foldl Zbl w
theorem Zhz:∀ (l:List Zj) (w:Zd),ZbH w l={ w with scans:=(l.foldl (Zdd w.skip) (w.scans,w.made)).1,made:=(l.foldl (Zdd w.skip) (w.scans,w.made)).2 }
 | [],w=>rfl
 | s::l,w=>by
  show ZbH (Zbl w s) l=_
  rw [Zhz l (Zbl w s)]
  rfl
def Ze3 (f:Zf→Zf) (g:Nat→Zf→List Zj) (i:Nat) (o:Zf) (w:Zd):Zd:=ZbH { w with orders:=w.orders.set i (f o) } (g i o)
def Zhr (f:Zf→Zf) (g:Nat→Zf→List Zj):Nat→List Zf→Zd→Zd
 | _,[],w=>w
 | i,o::os,w=>Zhr f g (i+1) os (Ze3 f g i o w)
theorem Zjs (f:Zf→Zf) (g:Nat→Zf→List Zj) (i:Nat) (o:Zf) (w:Zd):Ze3 f g i o w={ w with orders:=w.orders.set i (f o),scans:=((g i o).foldl (Zdd w.skip) (w.scans,w.made)).1,made:=((g i o).foldl (Zdd w.skip) (w.scans,w.made)).2 }:=by
 unfold Ze3; rw [Zhz]
theorem Zlq (f:Zf→Zf) (g:Nat→Zf→List Zj):∀ (os pre:List Zf) (w:Zd),w.orders=pre++os→
 Zhr f g pre.length os w={ w with orders:=pre++os.map f,scans:=((ZdH g pre.length os).foldl (Zdd w.skip) (w.scans,w.made)).1,made:=((ZdH g pre.length os).foldl (Zdd w.skip) (w.scans,w.made)).2 }
 | [],pre,w,h=>by simp only [Zhr,ZdH,List.map_nil,List.foldl_nil]; rw [← h]
 | o::os,pre,w,h=>by
  have hset:w.orders.set pre.length (f o)=(pre++[f o])++os:=by rw [h,List.set_append_right _ _ (Nat.le_refl _)]; simp
  have:=Zlq f g os (pre++[f o]) (Ze3 f g pre.length o w) (by rw [Zjs]; exact hset)
  simp only [List.length_append,List.length_cons,List.length_nil] at this
  show Zhr f g (pre.length+1) os (Ze3 f g pre.length o w)=_
  rw [this,Zjs]
  simp only [ZdH,List.foldl_append,List.map_cons,List.append_assoc,List.cons_append,List.nil_append]
theorem Zg7 {f:Zf→Zf} {g:Nat→Zf→List Zj} {body:Int × OwT→Option ((Int × OwT) ⊕ OwT)} {n:Nat} {Inv:Zd→Prop} {Good:Nat→Zf→Prop}
 (h1:∀ (i:Nat) (o:Zf) (w:Zd),w.orders.length=n→w.orders[i]?=some o→Inv w→Good i o→body (twT i w)=some (.inl (twT ((i+1:Nat):Int) (Ze3 f g i o w)))∧Inv (Ze3 f g i o w))
 (h2:∀ w:Zd,w.orders.length=n→body (twT n w)=some (.inr (owT w))):
 ∀ (os:List Zf) (i:Nat) (N:Nat) (w:Zd),w.orders.drop i=os→w.orders.length=n→i≤n→os.length<N→Inv w→(∀ (j:Nat) (o:Zf),os[j]?=some o→Good (i+j) o)→Zl body N (twT i w)=some (owT (Zhr f g i os w))
 | [],i,0,w,_,_,_,hN,_,_=>by simp at hN
 | [],i,N+1,w,hd,hl,hi,hN,hI,hG=>by
  have:i=n:=by have:=congrArg List.length hd; simp at this; omega
  subst this
  simp only [Zl,h2 w hl,Zhr]
  rfl
 | o::os,i,0,w,_,_,_,hN,_,_=>by simp at hN
 | o::os,i,N+1,w,hd,hl,hi,hN,hI,hG=>by
  have ho:w.orders[i]?=some o:=by
   have:=congrArg (fun l:List Zf=>l[0]?) hd
   simpa using this
  have hlt:i<w.orders.length:=(List.getElem?_eq_some_iff.1 ho).1
  obtain ⟨e1,e2⟩:=h1 i o w hl ho hI (by simpa using hG 0 o rfl)
  have hor:(Ze3 f g i o w).orders=w.orders.set i (f o):=by rw [Zjs]
  simp only [Zl,e1,Zhr]
  refine Zg7 h1 h2 os (i+1) N (Ze3 f g i o w) ?_ (by rw [hor,List.length_set]; exact hl) (by omega) (by simp at hN; omega) e2 fun j o' hj=>?_
  ·rw [hor,List.drop_set]
   have:(w.orders.drop (i+1))=os:=by
    have:=congrArg (List.drop 1) hd
    simpa [List.drop_drop] using this
   rw [if_pos (by omega),this]
  ·have:=hG (j+1) o' (by simpa using hj)
   rwa [show i+(j+1)=i+1+j by omega] at this
structure ZeC (n:Za) (k:Nat) (w:Zd):Prop where
 net:w.network=n
 scans:Zfq w
 orders:w.orders.length≤1048576
theorem ZiH:∀ (l:List Zj) (w:Zd),Zfq w→Zfq (ZbH w l)
 | [],w,h=>h
 | s::l,w,h=>ZiH l _ (Zhy h s)
theorem ZeC.step {n:Za} {k:Nat} {w:Zd} (h:ZeC n k w) (f:Zf→Zf) (g:Nat→Zf→List Zj) (i:Nat) (o:Zf):ZeC n k (Ze3 f g i o w):=by
 have hs:Zfq { w with orders:=w.orders.set i (f o) }:=⟨h.scans.skip,h.scans.len,h.scans.made⟩
 have h1:=ZiH (g i o) _ hs
 rw [Zjs]
 unfold Ze3 at *
 rw [Zhz] at h1
 exact ⟨h.net,h1,by simp only [List.length_set]; exact h.orders⟩
structure Zf9 (n:Za) (o:Zf):Prop where
 gone:0≤o.gone∧o.gone≤o.way.length
 len:o.way.length≤1048576
 trip:∀ t∈o.way,Zb0 n t=true
 rides:o.state=2→o.gone<o.way.length
theorem Zfh {α:Type} {xs:List α} {i:Nat} {x:α} (h:xs[i]?=some x):xs.set i x=xs:=by
 apply List.ext_getElem?
 intro j
 rw [List.getElem?_set]
 split
 ·rename_i e; subst e
  split
  ·exact h.symm
  ·rename_i hl; exact absurd (List.getElem?_eq_some_iff.1 h).1 hl
 ·rfl
theorem Zgm {n:Za} {at_:Int} {i:Nat} {o:Zf} (h:¬ o.state=1∨o.way[o.gone.toNat]?=none∨∃ t,o.way[o.gone.toNat]?=some t∧¬ Zaf n t=at_):Zfm n at_ o=o∧Zep n at_ i o=[]:=by
 unfold Zfm Zep
 rcases h with h | h | ⟨t,h,h'⟩
 ·cases o.way[o.gone.toNat]? with
  | none=>exact ⟨rfl,rfl⟩
  | some t=>simp [h]
 ·rw [h]; exact ⟨rfl,rfl⟩
 ·rw [h]; simp [h']
section
variable {n:Za} (hf:ZV n) (hn:Zi n=some true)
include hf hn
theorem ZuN (w0:Zd) (h0:w0.network=n) (hl0:w0.orders.length≤1048576) {at_:Int} (i:Nat) (o:Zf) (w:Zd) (hl:w.orders.length=w0.orders.length) (ho:w.orders[i]?=some o) (hI:ZeC n 0 w) (hG:Zf9 n o):
 Zbq w0 at_ (twT i w)=some (.inl (twT ((i+1:Nat):Int) (Ze3 (ZJ n at_) (Zbz n at_) i o w))):=by
 have hlt:=(List.getElem?_eq_some_iff.1 ho).1
 have hgg:=hG.gone
 have hg:getI w.orders (i:Int)=some o:=by rw [Zq]; exact ho
 have hr:rgI w.orders (i:Int)=some o:=hg
 have hi:w64 ((i:Int)+1)=((i+1:Nat):Int):=Z9 hlt (by have:=hI.orders; omega)
 have hd:decide ((i:Int)<(w0.orders.length:Int))=true:=decide_eq_true (by omega)
 have hnet:(⟨w.network.legs,w.network.off,w0.network.change⟩:Za)=n:=by rw [hI.net,h0]
 have hnet2:(⟨w.network.legs,w.network.off,w.network.change⟩:Za)=n:=hI.net
 unfold Zbq twT owT
 simp only [hd,cond_true,hg,Option.bind_some,hi,hnet,Zgx]
 by_cases hs:o.state=2
 ·have hgl:=hG.rides hs
  have hgt:o.gone.toNat<o.way.length:=by omega
  have ht:o.way[o.gone.toNat]?=some o.way[o.gone.toNat]:=List.getElem?_eq_getElem hgt
  generalize o.way[o.gone.toNat]=t at ht
  have hgw:getI o.way o.gone=some t:=by unfold getI; rw [if_pos hG.gone.1]; exact ht
  have htb:=hG.trip t (List.mem_of_getElem? ht)
  obtain ⟨y,hy,_⟩:=Zaz hf htb
  obtain ⟨t1,t2,t3,t4,t5⟩:=ZaF hf hn htb
  have hto:Zag n t=y.to_:=by unfold Zag; rw [hy]; rfl
  have hyl:getI w.network.legs t.leg=some y:=by rw [hI.net]; exact hy
  have hw1:w64 (o.gone+1)=o.gone+1:=Zp (by have:=hG.len; omega)
  simp only [decide_eq_true hs,Bool.not_true,cond_false,hgw,Option.bind_some,t2]
  by_cases he:Zbj n t=at_
  ·have inv1:∀ os:List Zf,Zfq { w with orders:=os }:=fun os=>⟨hI.scans.skip,hI.scans.len,hI.scans.made⟩
   have ea:ZJ n at_ o=arr1 n at_ o t:=by unfold ZJ; rw [ht]; simp only [hs,he,and_self,if_true]
   have ed:Zbz n at_ i o=⟨((i+1:Nat):Int),at_,2,⟨#[]⟩,t⟩::(if Zag n t=o.to_ then [⟨((i+1:Nat):Int),at_,4,Zag n t,⟨0,0⟩⟩] else []):=by unfold Zbz; rw [ht]; simp only [hs,he,and_self,if_true]
   unfold Ze3
   rw [ea,ed]
   unfold arr1
   simp only [decide_eq_true he,Bool.not_true,cond_false,hr,hgw,hyl,Option.bind_some,frzL,rhoM,hnet2,Int.toNat_natCast,hw1]
   rw [show (⟨n,w.orders.set i ⟨o.from_,o.to_,o.service,o.weight,o.at_,o.due,o.way,o.gone+1,1,y.to_,o.ended⟩,w.bookings,w.closed,w.now,w.scans,w.skip,w.made⟩:Zd)={ w with orders:=w.orders.set i ⟨o.from_,o.to_,o.service,o.weight,o.at_,o.due,o.way,o.gone+1,1,y.to_,o.ended⟩ } by rw [← hI.net]]
   rw [ZoS (inv1 _)]
   have hlt':i<(w.orders.set i (⟨o.from_,o.to_,o.service,o.weight,o.at_,o.due,o.way,o.gone+1,1,y.to_,o.ended⟩:Zf)).length:=by rw [List.length_set]; exact hlt
   have hr2:rgI (w.orders.set i (⟨o.from_,o.to_,o.service,o.weight,o.at_,o.due,o.way,o.gone+1,1,y.to_,o.ended⟩:Zf)) (i:Int)=some ⟨o.from_,o.to_,o.service,o.weight,o.at_,o.due,o.way,o.gone+1,1,y.to_,o.ended⟩:=by
    unfold rgI; rw [Zq,List.getElem?_set_self hlt]
   simp only [Option.bind_some,Zbl,hr2,hto]
   by_cases hc:y.to_=o.to_
   ·have hr3:rgI (w.orders.set i (⟨o.from_,o.to_,o.service,o.weight,o.at_,o.due,o.way,o.gone+1,3,y.to_,at_⟩:Zf)) (i:Int)=some ⟨o.from_,o.to_,o.service,o.weight,o.at_,o.due,o.way,o.gone+1,3,y.to_,at_⟩:=by
     unfold rgI; rw [Zq,List.getElem?_set_self hlt]
    simp only [decide_eq_true hc,cond_true,List.set_set,hr3,Option.bind_some]
    have inv2:=Zhy (inv1 (w.orders.set i ⟨o.from_,o.to_,o.service,o.weight,o.at_,o.due,o.way,o.gone+1,3,y.to_,at_⟩)) (⟨((i+1:Nat):Int),at_,2,⟨#[]⟩,t⟩:Zj)
    have e2:=ZoS inv2 ⟨((i+1:Nat):Int),at_,4,y.to_,⟨0,0⟩⟩
    unfold Zbl at e2
    simp only at e2
    simp only [e2,Option.bind_some,if_pos hc,ZbH,List.foldl_cons,List.foldl_nil,Zbl]
   ·simp only [decide_eq_false hc,cond_false,if_neg hc,ZbH,List.foldl_cons,List.foldl_nil,Zbl]
  ·have ea:ZJ n at_ o=o:=by unfold ZJ; rw [ht]; simp only [he,and_false,if_false]
   have ed:Zbz n at_ i o=[]:=by unfold Zbz; rw [ht]; simp only [he,and_false,if_false]
   simp only [decide_eq_false he,Bool.not_false,cond_true,Ze3,ea,ed,ZbH,List.foldl_nil,Zfh ho]
 ·have ea:ZJ n at_ o=o:=by
   unfold ZJ
   cases o.way[o.gone.toNat]? with
   | none=>rfl
   | some t=>simp [hs]
  have ed:Zbz n at_ i o=[]:=by
   unfold Zbz
   cases o.way[o.gone.toNat]? with
   | none=>rfl
   | some t=>simp [hs]
  simp only [decide_eq_false hs,Bool.not_false,cond_true,Ze3,ea,ed,ZbH,List.foldl_nil,Zfh ho]
theorem ZuO {at_:Int} (i:Nat) (o:Zf) (w:Zd) (ho:w.orders[i]?=some o) (hI:ZeC n 0 w) (hG:Zf9 n o):
 ZbR at_ (twT i w)=some (.inl (twT ((i+1:Nat):Int) (Ze3 (ZJ n at_) (Zbz n at_) i o w))):=by
 have hlt:=(List.getElem?_eq_some_iff.1 ho).1
 have hgg:=hG.gone
 have hg:getI w.orders (i:Int)=some o:=by rw [Zq]; exact ho
 have hi:w64 ((i:Int)+1)=((i+1:Nat):Int):=Z9 hlt (by have:=hI.orders; omega)
 have hd:decide ((i:Int)<(w.orders.length:Int))=true:=decide_eq_true (by omega)
 have hnet2:(⟨w.network.legs,w.network.off,w.network.change⟩:Za)=n:=hI.net
 unfold ZbR twT owT
 simp only [hd,cond_true,hg,Option.bind_some,hi,hnet2]
 by_cases hs:o.state=2
 ·have hgl:=hG.rides hs
  have hgt:o.gone.toNat<o.way.length:=by omega
  have ht:o.way[o.gone.toNat]?=some o.way[o.gone.toNat]:=List.getElem?_eq_getElem hgt
  generalize o.way[o.gone.toNat]=t at ht
  have hgw:getI o.way o.gone=some t:=by unfold getI; rw [if_pos hG.gone.1]; exact ht
  have htb:=hG.trip t (List.mem_of_getElem? ht)
  obtain ⟨y,hy,_⟩:=Zaz hf htb
  obtain ⟨t1,t2,t3,t4,t5⟩:=ZaF hf hn htb
  have hto:Zag n t=y.to_:=by unfold Zag; rw [hy]; rfl
  have hw1:w64 (o.gone+1)=o.gone+1:=Zp (by have:=hG.len; omega)
  simp only [decide_eq_true hs,Bool.not_true,cond_false,hgw,Option.bind_some,t2]
  by_cases he:Zbj n t=at_
  ·have ea:ZJ n at_ o=arr1 n at_ o t:=by unfold ZJ; rw [ht]; simp only [hs,he,and_self,if_true]
   have ed:Zbz n at_ i o=⟨((i+1:Nat):Int),at_,2,⟨#[]⟩,t⟩::(if Zag n t=o.to_ then [⟨((i+1:Nat):Int),at_,4,Zag n t,⟨0,0⟩⟩] else []):=by unfold Zbz; rw [ht]; simp only [hs,he,and_self,if_true]
   unfold Ze3
   rw [ea,ed]
   unfold arr1
   simp only [decide_eq_true he,Bool.not_true,cond_false,Option.bind_some,frzL,rhoM,Int.toNat_natCast,hw1]
   have e1:=ZrM hI.scans ⟨((i+1:Nat):Int),at_,2,⟨#[]⟩,t⟩
   have hw:w=⟨n,w.orders,w.bookings,w.closed,w.now,w.scans,w.skip,w.made⟩:=by rw [← hI.net]
   rw [← hI.net] at hy
   rw [show (⟨n,w.orders,w.bookings,w.closed,w.now,w.scans,w.skip,w.made⟩:Zd)=w from hw.symm,e1]
   simp only [Option.bind_some,Zbl,hg,hy,hto]
   by_cases hc:y.to_=o.to_
   ·have inv2:Zfq { Zbl w ⟨((i+1:Nat):Int),at_,2,⟨#[]⟩,t⟩ with orders:=w.orders.set i ⟨o.from_,o.to_,o.service,o.weight,o.at_,o.due,o.way,o.gone+1,3,y.to_,at_⟩ }:=by
     obtain ⟨a,b,c⟩:=Zhy hI.scans ⟨((i+1:Nat):Int),at_,2,⟨#[]⟩,t⟩
     exact ⟨a,b,c⟩
    have e2:=ZrM inv2 ⟨((i+1:Nat):Int),at_,4,o.to_,⟨0,0⟩⟩
    unfold Zbl at e2
    simp only at e2
    have hcd:decide (y.to_=o.to_)=true:=decide_eq_true hc
    simp only [hcd,cond_true,Option.bind_some,e2,if_pos hc,ZbH,List.foldl_cons,List.foldl_nil,Zbl]
    simp only [hc]
   ·simp only [decide_eq_false hc,cond_false,if_neg hc,ZbH,List.foldl_cons,List.foldl_nil,Zbl]
  ·have ea:ZJ n at_ o=o:=by unfold ZJ; rw [ht]; simp only [he,and_false,if_false]
   have ed:Zbz n at_ i o=[]:=by unfold Zbz; rw [ht]; simp only [he,and_false,if_false]
   simp only [decide_eq_false he,Bool.not_false,cond_true,Ze3,ea,ed,ZbH,List.foldl_nil,Zfh ho]
 ·have ea:ZJ n at_ o=o:=by
   unfold ZJ
   cases o.way[o.gone.toNat]? with
   | none=>rfl
   | some t=>simp [hs]
  have ed:Zbz n at_ i o=[]:=by
   unfold Zbz
   cases o.way[o.gone.toNat]? with
   | none=>rfl
   | some t=>simp [hs]
  simp only [decide_eq_false hs,Bool.not_false,cond_true,Ze3,ea,ed,ZbH,List.foldl_nil,Zfh ho]
theorem ZuP (w0:Zd) (h0:w0.network=n) (o0:OwT) {at_:Int} (i:Nat) (o:Zf) (w:Zd) (hl:w.orders.length=o0.2.2.2.2.2.1.length) (ho:w.orders[i]?=some o) (hI:ZeC n 0 w) (hG:Zf9 n o):
 Zbr w0 at_ o0 (twT i w)=some (.inl (twT ((i+1:Nat):Int) (Ze3 (Zfm n at_) (Zep n at_) i o w))):=by
 have hlt:=(List.getElem?_eq_some_iff.1 ho).1
 have hgg:=hG.gone
 have hg:getI w.orders (i:Int)=some o:=by rw [Zq]; exact ho
 have hr:rgI w.orders (i:Int)=some o:=hg
 have hi:w64 ((i:Int)+1)=((i+1:Nat):Int):=Z9 hlt (by have:=hI.orders; omega)
 have hd:decide ((i:Int)<(o0.2.2.2.2.2.1.length:Int))=true:=decide_eq_true (by omega)
 have hnet:(⟨w.network.legs,w.network.off,w0.network.change⟩:Za)=n:=by rw [hI.net,h0]
 have hnet2:(⟨w.network.legs,w.network.off,w.network.change⟩:Za)=n:=hI.net
 unfold Zbr twT owT
 simp only [hd,cond_true,hg,Option.bind_some,hi,hnet,Ze2]
 by_cases hs:o.state=1
 ·by_cases hgl:o.gone<o.way.length
  ·have hgt:o.gone.toNat<o.way.length:=by omega
   have ht:o.way[o.gone.toNat]?=some o.way[o.gone.toNat]:=List.getElem?_eq_getElem hgt
   generalize o.way[o.gone.toNat]=t at ht
   have hgw:getI o.way o.gone=some t:=by unfold getI; rw [if_pos hG.gone.1]; exact ht
   have htb:=hG.trip t (List.mem_of_getElem? ht)
   obtain ⟨t1,t2,t3,t4,t5⟩:=ZaF hf hn htb
   simp only [decide_eq_true hs,decide_eq_true hgl,cond_true,hgw,Option.bind_some,t1]
   by_cases he:Zaf n t=at_
   ·have ea:Zfm n at_ o=⟨o.from_,o.to_,o.service,o.weight,o.at_,o.due,o.way,o.gone,2,⟨#[]⟩,o.ended⟩:=by unfold Zfm; rw [ht]; simp only [hs,he,and_self,if_true]
    have ed:Zep n at_ i o=[⟨((i+1:Nat):Int),at_,3,⟨#[]⟩,t⟩]:=by unfold Zep; rw [ht]; simp only [hs,he,and_self,if_true]
    have hr2:rgI (w.orders.set i (⟨o.from_,o.to_,o.service,o.weight,o.at_,o.due,o.way,o.gone,2,⟨#[]⟩,o.ended⟩:Zf)) (i:Int)=some ⟨o.from_,o.to_,o.service,o.weight,o.at_,o.due,o.way,o.gone,2,⟨#[]⟩,o.ended⟩:=by
     unfold rgI; rw [Zq,List.getElem?_set_self hlt]
    have inv1:Zfq { w with orders:=w.orders.set i ⟨o.from_,o.to_,o.service,o.weight,o.at_,o.due,o.way,o.gone,2,⟨#[]⟩,o.ended⟩ }:=⟨hI.scans.skip,hI.scans.len,hI.scans.made⟩
    have e1:=ZoS inv1 ⟨((i+1:Nat):Int),at_,3,⟨#[]⟩,t⟩
    have hnw:w.network=n:=hI.net
    simp only [hnw] at e1
    unfold Ze3
    rw [ea,ed]
    simp only [decide_eq_true he,cond_true,hr,Option.bind_some,frzL,rhoM,drwL,hnet2,Int.toNat_natCast,hr2,hgw,e1,ZbH,List.foldl_cons,List.foldl_nil,Zbl,hnw]
   ·obtain ⟨ea,ed⟩:=Zgm (n:=n) (at_:=at_) (i:=i) (.inr (.inr ⟨t,ht,he⟩))
    simp only [decide_eq_false he,cond_false,Ze3,ea,ed,ZbH,List.foldl_nil,Zfh ho]
  ·obtain ⟨ea,ed⟩:=Zgm (n:=n) (at_:=at_) (i:=i) (o:=o) (.inr (.inl (List.getElem?_eq_none (by omega))))
   simp only [decide_eq_true hs,decide_eq_false hgl,cond_true,cond_false,Ze3,ea,ed,ZbH,List.foldl_nil,Zfh ho]
 ·obtain ⟨ea,ed⟩:=Zgm (n:=n) (at_:=at_) (i:=i) (o:=o) (.inl hs)
  simp only [decide_eq_false hs,cond_false,Ze3,ea,ed,ZbH,List.foldl_nil,Zfh ho]
theorem ZuQ {at_:Int} (i:Nat) (o:Zf) (w:Zd) (ho:w.orders[i]?=some o) (hI:ZeC n 0 w) (hG:Zf9 n o):
 ZbS at_ (twT i w)=some (.inl (twT ((i+1:Nat):Int) (Ze3 (Zfm n at_) (Zep n at_) i o w))):=by
 have hlt:=(List.getElem?_eq_some_iff.1 ho).1
 have hgg:=hG.gone
 have hg:getI w.orders (i:Int)=some o:=by rw [Zq]; exact ho
 have hi:w64 ((i:Int)+1)=((i+1:Nat):Int):=Z9 hlt (by have:=hI.orders; omega)
 have hd:decide ((i:Int)<(w.orders.length:Int))=true:=decide_eq_true (by omega)
 have hnet2:(⟨w.network.legs,w.network.off,w.network.change⟩:Za)=n:=hI.net
 unfold ZbS twT owT
 simp only [hd,cond_true,hg,Option.bind_some,hi,hnet2]
 by_cases hs:o.state=1
 ·by_cases hgl:o.gone<o.way.length
  ·have hgt:o.gone.toNat<o.way.length:=by omega
   have ht:o.way[o.gone.toNat]?=some o.way[o.gone.toNat]:=List.getElem?_eq_getElem hgt
   generalize o.way[o.gone.toNat]=t at ht
   have hgw:getI o.way o.gone=some t:=by unfold getI; rw [if_pos hG.gone.1]; exact ht
   have htb:=hG.trip t (List.mem_of_getElem? ht)
   obtain ⟨t1,t2,t3,t4,t5⟩:=ZaF hf hn htb
   simp only [decide_eq_true hs,decide_eq_true hgl,cond_true,hgw,Option.bind_some,t1]
   by_cases he:Zaf n t=at_
   ·have ea:Zfm n at_ o=⟨o.from_,o.to_,o.service,o.weight,o.at_,o.due,o.way,o.gone,2,⟨#[]⟩,o.ended⟩:=by unfold Zfm; rw [ht]; simp only [hs,he,and_self,if_true]
    have ed:Zep n at_ i o=[⟨((i+1:Nat):Int),at_,3,⟨#[]⟩,t⟩]:=by unfold Zep; rw [ht]; simp only [hs,he,and_self,if_true]
    have inv1:Zfq { w with orders:=w.orders.set i ⟨o.from_,o.to_,o.service,o.weight,o.at_,o.due,o.way,o.gone,2,⟨#[]⟩,o.ended⟩ }:=⟨hI.scans.skip,hI.scans.len,hI.scans.made⟩
    have e1:=ZrM inv1 ⟨((i+1:Nat):Int),at_,3,⟨#[]⟩,t⟩
    have hnw:w.network=n:=hI.net
    simp only [hnw] at e1
    unfold Ze3
    rw [ea,ed]
    simp only [decide_eq_true he,cond_true,Option.bind_some,frzL,rhoM,drwL,hnet2,Int.toNat_natCast,hgw,e1,ZbH,List.foldl_cons,List.foldl_nil,Zbl,hnw]
   ·obtain ⟨ea,ed⟩:=Zgm (n:=n) (at_:=at_) (i:=i) (.inr (.inr ⟨t,ht,he⟩))
    simp only [decide_eq_false he,cond_false,Ze3,ea,ed,ZbH,List.foldl_nil,Zfh ho]
  ·obtain ⟨ea,ed⟩:=Zgm (n:=n) (at_:=at_) (i:=i) (o:=o) (.inr (.inl (List.getElem?_eq_none (by omega))))
   simp only [decide_eq_true hs,decide_eq_false hgl,cond_true,cond_false,Ze3,ea,ed,ZbH,List.foldl_nil,Zfh ho]
 ·obtain ⟨ea,ed⟩:=Zgm (n:=n) (at_:=at_) (i:=i) (o:=o) (.inl hs)
  simp only [decide_eq_false hs,cond_false,Ze3,ea,ed,ZbH,List.foldl_nil,Zfh ho]
end
structure ZlL (w:Zd):Prop where
 net:ZV w.network
 isNet:Zi w.network=some true
 inv:ZeC w.network 0 w
 ord:∀ o∈w.orders,Zf9 w.network o
theorem ZnF {n:Za} {at_:Int} {o:Zf} (h:Zf9 n o):Zf9 n (ZJ n at_ o):=by
 have hs:=ZhA n at_ o
 refine ⟨?_,by rw [hs.way]; exact h.len,by rw [hs.way]; exact h.trip,?_⟩
 ·rw [hs.way]
  have:=h.gone
  unfold ZJ
  split
  ·rename_i t ht
   have hlt:=(List.getElem?_eq_some_iff.1 ht).1
   split
   ·unfold arr1; split <;> (simp only; omega)
   ·exact this
  ·exact this
 ·unfold ZJ
  split
  ·split
   ·unfold arr1; split <;> (intro h'; simp at h')
   ·exact h.rides
  ·exact h.rides
theorem ZjO {w:Zd} (h:ZlL w) (at_:Int):Zdr w at_=some (Zav w at_)∧ZdU w at_=some (Zav w at_):=by
 have hlen:=h.inv.orders
 have p1:Zhr (ZJ w.network at_) (Zbz w.network at_) 0 w.orders w={ w with orders:=w.orders.map (ZJ w.network at_),scans:=((ZdH (Zbz w.network at_) 0 w.orders).foldl (Zdd w.skip) (w.scans,w.made)).1,made:=((ZdH (Zbz w.network at_) 0 w.orders).foldl (Zdd w.skip) (w.scans,w.made)).2 }:=by
  have:=Zlq (ZJ w.network at_) (Zbz w.network at_) w.orders [] w rfl
  simpa using this
 have i1:ZeC w.network 0 (Zhr (ZJ w.network at_) (Zbz w.network at_) 0 w.orders w):=by
  have:∀ (os:List Zf) (i:Nat) (v:Zd),ZeC w.network 0 v→ZeC w.network 0 (Zhr (ZJ w.network at_) (Zbz w.network at_) i os v):=by
   intro os
   induction os with
   | nil=>intro i v hv; exact hv
   | cons o os ih=>intro i v hv; exact ih (i+1) _ (hv.step _ _ i o)
  exact this _ _ _ h.inv
 have o1:(Zhr (ZJ w.network at_) (Zbz w.network at_) 0 w.orders w).orders=w.orders.map (ZJ w.network at_):=by rw [p1]
 have p2:=Zlq (Zfm w.network at_) (Zep w.network at_) (w.orders.map (ZJ w.network at_)) [] (Zhr (ZJ w.network at_) (Zbz w.network at_) 0 w.orders w) (by rw [o1]; rfl)
 simp only [List.length_nil,List.nil_append] at p2
 have hgood:∀ (j:Nat) (o:Zf),w.orders[j]?=some o→Zf9 w.network o:=fun j o ho=>h.ord o (List.mem_of_getElem? ho)
 have hgood2:∀ (j:Nat) (o:Zf),(w.orders.map (ZJ w.network at_))[j]?=some o→Zf9 w.network o:=fun j o ho=>by
  rw [List.getElem?_map] at ho
  obtain ⟨o0,h0,rfl⟩:=Option.map_eq_some_iff.1 ho
  exact ZnF (hgood j o0 h0)
 have fin:∀ v:Zd,v=Zhr (Zfm w.network at_) (Zep w.network at_) 0 (w.orders.map (ZJ w.network at_)) (Zhr (ZJ w.network at_) (Zbz w.network at_) 0 w.orders w)→{ v with now:=at_ }=Zav w at_:=by
  rintro v rfl
  rw [p2,p1]
  unfold Zav ZeM ZdI
  simp only [List.map_map,List.foldl_append]
  rfl
 constructor
 ·unfold Zdr
  have l1:=Zg7 (f:=ZJ w.network at_) (g:=Zbz w.network at_) (body:=Zbq w at_) (n:=w.orders.length) (Inv:=ZeC w.network 0) (Good:=fun _ o=>Zf9 w.network o)
   (fun i o v hv ho hI hG=>⟨ZuN h.net h.isNet w rfl hlen i o v hv ho hI hG,hI.step _ _ i o⟩)
   (fun v hv=>by unfold Zbq twT owT; simp only [decide_eq_false (show ¬ (w.orders.length:Int)<(w.orders.length:Int) by omega),cond_false]) w.orders 0 NN w rfl rfl (Nat.zero_le _) (by unfold NN; omega) h.inv hgood
  have e1:((0:Int),w.network.change,w.now,w.made,w.network.legs,w.network.off,w.orders,w.bookings,w.closed,w.skip,w.scans)=twT ((0:Nat):Int) w:=rfl
  rw [e1,l1,Option.bind_some]
  generalize hv1:Zhr (ZJ w.network at_) (Zbz w.network at_) 0 w.orders w=v1 at *
  have hl2:v1.orders.length=w.orders.length:=by rw [o1,List.length_map]
  have l2:=Zg7 (f:=Zfm w.network at_) (g:=Zep w.network at_) (body:=Zbr w at_ (owT v1)) (n:=v1.orders.length) (Inv:=ZeC w.network 0) (Good:=fun _ o=>Zf9 w.network o)
   (fun i o v hv ho hI hG=>⟨ZuP h.net h.isNet w rfl (owT v1) i o v hv ho hI hG,hI.step _ _ i o⟩)
   (fun v hv=>by unfold Zbr twT owT; simp only [decide_eq_false (show ¬ (v1.orders.length:Int)<(v1.orders.length:Int) by omega),cond_false]) (w.orders.map (ZJ w.network at_)) 0 NN v1 (by rw [o1]; rfl) rfl (Nat.zero_le _) (by rw [List.length_map]; unfold NN; omega) i1 hgood2
  have e2:((0:Int),(owT v1).1,(owT v1).2.1,(owT v1).2.2.1,(owT v1).2.2.2.1,(owT v1).2.2.2.2.1,(owT v1).2.2.2.2.2.1,(owT v1).2.2.2.2.2.2.1,(owT v1).2.2.2.2.2.2.2.1,(owT v1).2.2.2.2.2.2.2.2.1,(owT v1).2.2.2.2.2.2.2.2.2)=twT ((0:Nat):Int) v1:=rfl
  rw [e2,l2,Option.bind_some]
  exact congrArg some (fin _ rfl)
 ·unfold ZdU
  have l1:=Zg7 (f:=ZJ w.network at_) (g:=Zbz w.network at_) (body:=ZbR at_) (n:=w.orders.length) (Inv:=ZeC w.network 0) (Good:=fun _ o=>Zf9 w.network o)
   (fun i o v hv ho hI hG=>⟨ZuO h.net h.isNet i o v ho hI hG,hI.step _ _ i o⟩)
   (fun v hv=>by unfold ZbR twT owT; simp only [decide_eq_false (show ¬ (w.orders.length:Int)<(v.orders.length:Int) by omega),cond_false]) w.orders 0 NN w rfl rfl (Nat.zero_le _) (by unfold NN; omega) h.inv hgood
  have e1:((0:Int),w.network.change,w.now,w.made,w.network.legs,w.network.off,w.orders,w.bookings,w.closed,w.skip,w.scans)=twT ((0:Nat):Int) w:=rfl
  rw [e1,l1,Option.bind_some]
  generalize hv1:Zhr (ZJ w.network at_) (Zbz w.network at_) 0 w.orders w=v1 at *
  have l2:=Zg7 (f:=Zfm w.network at_) (g:=Zep w.network at_) (body:=ZbS at_) (n:=v1.orders.length) (Inv:=ZeC w.network 0) (Good:=fun _ o=>Zf9 w.network o)
   (fun i o v hv ho hI hG=>⟨ZuQ h.net h.isNet i o v ho hI hG,hI.step _ _ i o⟩)
   (fun v hv=>by unfold ZbS twT owT; simp only [decide_eq_false (show ¬ (v1.orders.length:Int)<(v.orders.length:Int) by omega),cond_false]) (w.orders.map (ZJ w.network at_)) 0 NN v1 (by rw [o1]; rfl) rfl (Nat.zero_le _) (by rw [List.length_map]; unfold NN; omega) i1 hgood2
  have e2:((0:Int),(owT v1).1,(owT v1).2.1,(owT v1).2.2.1,(owT v1).2.2.2.1,(owT v1).2.2.2.2.1,(owT v1).2.2.2.2.2.1,(owT v1).2.2.2.2.2.2.1,(owT v1).2.2.2.2.2.2.2.1,(owT v1).2.2.2.2.2.2.2.2.1,(owT v1).2.2.2.2.2.2.2.2.2)=twT ((0:Nat):Int) v1:=rfl
  rw [e2,l2,Option.bind_some]
  exact congrArg some (fin _ rfl)
end Go.Proofs.YtmcdjilbkmhfoaaGreat
namespace Go.Proofs.YtmcdjilbkmhfoaaGreat
set_option maxRecDepth 10000
open Go.RowKit
set_option linter.unusedVariables false
set_option maxHeartbeats 16000000
def Za9 (n:Za):Option Za:=
 (chk (Z1 ((([]:List YLeg):List YLeg).length+(n.legs:List YLeg).length) 64)).bind fun _=>
 (chk (Z1 ((([]:List Int):List Int).length+(n.off:List Int).length) 8)).bind fun _=>
 some (⟨((([]:List YLeg):List YLeg)++n.legs),((([]:List Int):List Int)++n.off),n.change⟩:Za)
instance (n:Za):CT Tryz.prog (Za9 n):=⟨149,[.ag (Zm n)],[],fun r=>.ag [.ms 0,.ms 1,vi r.change],fun r=>[some ⟨67,6,r.legs.map cLeg⟩,some ⟨3,1,r.off.map cInt⟩],fun H=>by replace H:=H0 H; unfold Za9 at H; exact Zh Tryz.func149 rfl Tryz.ntmps149 Tryz.results149 fun Q hQ hQn=>wk3⟩
def ZaX (l:List Zc):Option (List Zc):=
 (chk (Z1 ((([]:List Zc):List Zc).length+(l:List Zc).length) 32)).bind fun _=>
 some ((([]:List Zc):List Zc)++l)
instance (l:List Zc):CT Tryz.prog (ZaX l):=⟨169,[.sl (l.map Zg)],[],fun r=>.ms 0,fun r=>[some ⟨135,4,r.map Zg⟩],fun H=>by replace H:=H0 H; unfold ZaX at H; exact Zh Tryz.func169 rfl Tryz.ntmps169 Tryz.results169 fun Q hQ hQn=>wk3⟩
def Zbd (l:List Ze):Option (List Ze):=
 (chk (Z1 ((([]:List Ze):List Ze).length+(l:List Ze).length) 16)).bind fun _=>
 some ((([]:List Ze):List Ze)++l)
instance (l:List Ze):CT Tryz.prog (Zbd l):=⟨137,[.sl (l.map Zr)],[],fun r=>.ms 0,fun r=>[some ⟨55,2,r.map Zr⟩],fun H=>by replace H:=H0 H; unfold Zbd at H; exact Zh Tryz.func137 rfl Tryz.ntmps137 Tryz.results137 fun Q hQ hQn=>wk3⟩
def Za3 (w:Zd) (y1:Za) (y2:(List Zc)) (y3:(List Ze)) (s0:Int × (List Zf)):Option ((Int × (List Zf)) ⊕ (List Zf)):=
 cond (decide (s0.1<(w.orders.length:Int)))
 ((getI w.orders s0.1).bind fun y4=>
 (Zbd y4.way).bind fun y5=>
 (frz (.un::.un::.be 0 0 0::.be 1 0 0::.un::.be 9 0 0::(U 23 (.sl (w.orders.map Zv)::vi (w.orders.length:Int)::vi s0.1::(U 15 [])))) [some ⟨41,10,[[.v (.slice none 0 0),.v (.slice none 0 0),vi 0,.v (.slice none 0 0),.v (.slice none 0 0),.v (.slice none 0 0),vi 0,.v (.slice none 0 0),.v (.slice none 0 0),vi 0]]⟩,some ⟨41,10,[[.ms 2,.ms 3,vi y1.change,.ms 4,.ms 5,.ms 6,vi w.now,.ms 7,.ms 8,vi w.made]]⟩,some ⟨67,6,y1.legs.map cLeg⟩,some ⟨3,1,y1.off.map cInt⟩,some ⟨62,11,s0.2.map Zv⟩,some ⟨135,4,y2.map Zg⟩,some ⟨55,2,y3.map Zr⟩,some ⟨130,6,((([]:List Zj):List Zj)++w.scans).map ZF⟩,some ⟨3,1,((([]:List Int):List Int)++w.skip).map cInt⟩,some ⟨62,11,[[vs y4.from_,vs y4.to_,vi y4.service,vi y4.weight,vi y4.at_,vi y4.due,.sl (y5.map Zr),vi y4.gone,vi y4.state,vs y4.place,vi y4.ended]]⟩]).bind fun _=>
 (chk (Z1 ((s0.2:List Zf).length+([(⟨y4.from_,y4.to_,y4.service,y4.weight,y4.at_,y4.due,y5,y4.gone,y4.state,y4.place,y4.ended⟩:Zf)]:List Zf).length) 128)).bind fun _=>
 some (.inl ((w64 (s0.1+1)),((s0.2:List Zf)++[(⟨y4.from_,y4.to_,y4.service,y4.weight,y4.at_,y4.due,y5,y4.gone,y4.state,y4.place,y4.ended⟩:Zf)]))))
 (some (.inr s0.2))
instance (w:Zd) (y1:Za) (y2:(List Zc)) (y3:(List Ze)):ZU (Za3 w y1 y2 y3):=⟨fun s0=>(.un::.un::.be 0 0 0::.be 1 0 0::(U 25 (.sl (w.orders.map Zv)::vi (w.orders.length:Int)::vi s0.1::(U 15 [])))),fun s0=>[some ⟨41,10,[[.v (.slice none 0 0),.v (.slice none 0 0),vi 0,.v (.slice none 0 0),.v (.slice none 0 0),.v (.slice none 0 0),vi 0,.v (.slice none 0 0),.v (.slice none 0 0),vi 0]]⟩,some ⟨41,10,[[.ms 2,.ms 3,vi y1.change,.ms 4,.ms 5,.ms 6,vi w.now,.ms 7,.ms 8,vi w.made]]⟩,some ⟨67,6,y1.legs.map cLeg⟩,some ⟨3,1,y1.off.map cInt⟩,some ⟨62,11,s0.2.map Zv⟩,some ⟨135,4,y2.map Zg⟩,some ⟨55,2,y3.map Zr⟩,some ⟨130,6,((([]:List Zj):List Zj)++w.scans).map ZF⟩,some ⟨3,1,((([]:List Int):List Int)++w.skip).map cInt⟩]⟩
def ZbP (w:Zd):Option Zd:=
 (Za9 w.network).bind fun y1=>
 (ZaX w.bookings).bind fun y2=>
 (Zbd w.closed).bind fun y3=>
 (chk (Z1 ((([]:List Zj):List Zj).length+(w.scans:List Zj).length) 56)).bind fun _=>
 (chk (Z1 ((([]:List Int):List Int).length+(w.skip:List Int).length) 8)).bind fun _=>
 (Zl (Za3 w y1 y2 y3) NN (0,[])).bind (fun o0=>
 some (⟨y1,o0,y2,y3,w.now,((([]:List Zj):List Zj)++w.scans),((([]:List Int):List Int)++w.skip),w.made⟩:Zd))
instance (w:Zd):CT Tryz.prog (ZbP w):=⟨80,[.ag (ZbD w)],[],fun r=>.ag [.ms 0,.ms 1,vi r.network.change,.ms 2,.ms 3,.ms 4,vi r.now,.ms 5,.ms 6,vi r.made],fun r=>[some ⟨67,6,r.network.legs.map cLeg⟩,some ⟨3,1,r.network.off.map cInt⟩,some ⟨62,11,r.orders.map Zv⟩,some ⟨135,4,r.bookings.map Zg⟩,some ⟨55,2,r.closed.map Zr⟩,some ⟨130,6,r.scans.map ZF⟩,some ⟨3,1,r.skip.map cInt⟩],fun H=>by replace H:=H0 H; unfold ZbP at H; exact Zh Tryz.func80 rfl Tryz.ntmps80 Tryz.results80 fun Q hQ hQn=>wk3⟩
def Zdg (until_:Int) (s0:Int × Int × Int × Int × (List YLeg) × (List Int) × (List Zf) × (List Zc) × (List Ze) × (List Zj) × (List Int)):Option ((Int × Int × Int × Int × (List YLeg) × (List Int) × (List Zf) × (List Zc) × (List Ze) × (List Zj) × (List Int)) ⊕ (Int × Int × Int × (List YLeg) × (List Int) × (List Zf) × (List Zc) × (List Ze) × (List Zj) × (List Int))):=
 cond (decide (0≤s0.1))
 (cond (decide (s0.1≤until_))
 ((rhoM [1,2,3,4,5,6,7,8]).bind fun _=>
 (Zdr (⟨(⟨s0.2.2.2.2.1,s0.2.2.2.2.2.1,s0.2.1⟩:Za),s0.2.2.2.2.2.2.1,s0.2.2.2.2.2.2.2.1,s0.2.2.2.2.2.2.2.2.1,s0.2.2.1,s0.2.2.2.2.2.2.2.2.2.1,s0.2.2.2.2.2.2.2.2.2.2,s0.2.2.2.1⟩:Zd) s0.1).bind fun y5=>
 (Zbe y5).bind fun y6=>
 some (.inl (y6,y5.network.change,y5.now,y5.made,y5.network.legs,y5.network.off,y5.orders,y5.bookings,y5.closed,y5.scans,y5.skip)))
 (some (.inr (s0.2.1,s0.2.2.1,s0.2.2.2.1,s0.2.2.2.2.1,s0.2.2.2.2.2.1,s0.2.2.2.2.2.2.1,s0.2.2.2.2.2.2.2.1,s0.2.2.2.2.2.2.2.2.1,s0.2.2.2.2.2.2.2.2.2.1,s0.2.2.2.2.2.2.2.2.2.2))))
 (some (.inr (s0.2.1,s0.2.2.1,s0.2.2.2.1,s0.2.2.2.2.1,s0.2.2.2.2.2.1,s0.2.2.2.2.2.2.1,s0.2.2.2.2.2.2.2.1,s0.2.2.2.2.2.2.2.2.1,s0.2.2.2.2.2.2.2.2.2.1,s0.2.2.2.2.2.2.2.2.2.2)))
instance (until_:Int):ZU (Zdg until_):=⟨fun s0=>(.un::vi until_::.un::.un::.be 0 0 0::.be 1 0 0::vi s0.1::(U 29 [])),fun s0=>[some ⟨41,10,[[.v (.slice none 0 0),.v (.slice none 0 0),vi 0,.v (.slice none 0 0),.v (.slice none 0 0),.v (.slice none 0 0),vi 0,.v (.slice none 0 0),.v (.slice none 0 0),vi 0]]⟩,some ⟨41,10,[[.ms 2,.ms 3,vi s0.2.1,.ms 4,.ms 5,.ms 6,vi s0.2.2.1,.ms 7,.ms 8,vi s0.2.2.2.1]]⟩,some ⟨67,6,s0.2.2.2.2.1.map cLeg⟩,some ⟨3,1,s0.2.2.2.2.2.1.map cInt⟩,some ⟨62,11,s0.2.2.2.2.2.2.1.map Zv⟩,some ⟨135,4,s0.2.2.2.2.2.2.2.1.map Zg⟩,some ⟨55,2,s0.2.2.2.2.2.2.2.2.1.map Zr⟩,some ⟨130,6,s0.2.2.2.2.2.2.2.2.2.1.map ZF⟩,some ⟨3,1,s0.2.2.2.2.2.2.2.2.2.2.map cInt⟩]⟩
def Zcr (w:Zd) (until_:Int):Option Zd:=
 (ZbP w).bind fun y1=>
 (Zb5 w).bind fun y2=>
 cond (!y2)
 (some y1)
 ((Zt until_ w.now 100000).bind fun y3=>
 cond (!y3)
 (some y1)
 ((Zbe y1).bind fun y4=>
 (Zl (Zdg until_) NN (y4,y1.network.change,y1.now,y1.made,y1.network.legs,y1.network.off,y1.orders,y1.bookings,y1.closed,y1.scans,y1.skip)).bind (fun o0=>
 some (⟨(⟨o0.2.2.2.1,o0.2.2.2.2.1,o0.1⟩:Za),o0.2.2.2.2.2.1,o0.2.2.2.2.2.2.1,o0.2.2.2.2.2.2.2.1,until_,o0.2.2.2.2.2.2.2.2.1,o0.2.2.2.2.2.2.2.2.2,o0.2.2.1⟩:Zd))))
instance (w:Zd) (until_:Int):CT Tryz.prog (Zcr w until_):=⟨18,[.ag (ZbD w),vi until_],[],fun r=>.ag [.sl (r.network.legs.map cLeg),.sl (r.network.off.map cInt),vi r.network.change,.sl (r.orders.map Zv),.sl (r.bookings.map Zg),.sl (r.closed.map Zr),vi r.now,.sl (r.scans.map ZF),.sl (r.skip.map cInt),vi r.made],fun r=>[],fun H=>by replace H:=H0 H; unfold Zcr at H; exact Zh Tryz.func18 rfl Tryz.ntmps18 Tryz.results18 fun Q hQ hQn=>wk3⟩
def ZaW (l:List Int):Option (List Int):=
 (chk (Z1 ((([]:List Int):List Int).length+(l:List Int).length) 8)).bind fun _=>
 some ((([]:List Int):List Int)++l)
instance (l:List Int):CT Tryz.prog (ZaW l):=⟨162,[.sl (l.map cInt)],[],fun r=>.ms 0,fun r=>[some ⟨3,1,r.map cInt⟩],fun H=>by replace H:=H0 H; unfold ZaW at H; exact Zh Tryz.func162 rfl Tryz.ntmps162 Tryz.results162 fun Q hQ hQn=>wk3⟩
def ZcG (l:List Zc):Option (List Zc):=
 (chk (Z1 ((([]:List Zc):List Zc).length+(l:List Zc).length) 32)).bind fun _=>
 some ((([]:List Zc):List Zc)++l)
instance (l:List Zc):CT Tryz.prog (ZcG l):=⟨163,[.sl (l.map Zg)],[],fun r=>.ms 0,fun r=>[some ⟨135,4,r.map Zg⟩],fun H=>by replace H:=H0 H; unfold ZcG at H; exact Zh Tryz.func163 rfl Tryz.ntmps163 Tryz.results163 fun Q hQ hQn=>wk3⟩
end Go.Proofs.YtmcdjilbkmhfoaaGreat
