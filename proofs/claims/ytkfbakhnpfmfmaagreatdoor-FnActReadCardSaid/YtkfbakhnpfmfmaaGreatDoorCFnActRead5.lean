/- A part of the proof of the statement in the last file of this claim: texts on the language of the program and on its functions. No condition. -/
import Derived.Test.YtkfbakhnpfmfmaaGreatDoorCFnActRead4
import Derived.Test.YtkfbakhnpfmfmaaGreatDoorCFnActRead3
import Derived.Lib.Split
import Derived.Lib.CountLaws
import Derived.Lib.AtoiAll
import Derived.Lib.ItoaNum
import Derived.Test.YtkfbakhnpfmfmaaGreatDoorCFnActRead1
import Derived.Lib.SplitLaws
import Derived.Test.YtkfbakhnpfmfmaaGreatDoorProg
import Derived.Laws.BytesArg
set_option linter.unusedVariables false
set_option linter.unusedSimpArgs false
set_option linter.unusedSectionVars false
namespace Go.Proofs.YtkfbakhnpfmfmaaGreatDoor
set_option maxRecDepth 10000
open Go.RowKit
set_option linter.unusedVariables false
set_option linter.unusedSimpArgs false
set_option maxHeartbeats 2000000
theorem ZsB (l:List UInt8) (k:Nat) (h:k<(txt l).size):l[k]?=some ((txt l)[k]'h):=by
 have h':k<l.length:=by rw [Zo] at h; exact h
 rw [List.getElem?_eq_getElem h']
 rfl
theorem Zkc (i:Nat) (h:i<100):(Lib.itoa (i:Int)).length≤21:=
 Lib.itoa_length_le (i:Int) (by omega) (by omega)
theorem Znq {c:UInt8} {a:List UInt8} (h:dgt c=some a):a.length≤21:=by
 unfold dgt at h
 split at h
 ·cases h; simp
 ·split at h
  ·cases h; exact Zkc _ (by have:=c.toNat_lt; omega)
  ·cases h
theorem Znr (l:List UInt8) (hl:l.length≤1000000000) (w:World):
 Calls Tryz.prog 120 #[.string (txt l)] w fun e w'=>e=.returned (.tuple #[.string (txt ((dgts l).getD [])),.bool ((dgts l).isSome)])∧Up w w':=by
 have hsz:(txt l).size=l.length:=Zo _
 go_enter Tryz.func120,Tryz.ntmps120
 go_wp2
 go_loopw [5] (fun ii wr=>∃ (k:Nat) (acc:List UInt8),k≤l.length∧ii=.int .i64 k∧dgts (l.take k)=some acc∧acc.length≤21*k∧Lib.IsBuilder 199 5 w.heap.size w.heap.size (Lib.byteCells acc) wr∧Up w wr) (fun ii _=>l.length-(intOf ii).toNat)
 case atStart=>
  exact ⟨0,[],by omega,rfl,by simp [dgts],by simp,Lib.fresh_isBuilder 199 5 w,by (repeat (first | exact Up.rfl' _ | (refine Up.al _ ?_) | (refine Up.dr _ ?_) | (refine Up.dr1 ?_) | (refine Up.sc ?_ (by first | exact Nat.le_refl _ | (simp; done) | omega) _) | (refine Up.step (by assumption) ?_)))⟩
 case round=>
  obtain ⟨k,acc,hk,rfl,hacc,hal,hI,hu⟩:=hrel
  have hws:=hu.size
  by_cases hlt:k<l.length
  ·have hlt2:k<(txt l).size:=by omega
   have hg:=ZsB l k hlt2
   have htk:dgts (l.take (k+1))=match some acc,dgt ((txt l)[k]'hlt2) with
    | some a,some b=>some (a++b)
    | _,_=>none:=by
    rw [List.take_add_one,hg,show (some (txt l)[k]).toList=[(txt l)[k]] from rfl,Zmc,hacc] <;> rfl
   have hcl:=((txt l)[k]'hlt2).toNat_lt
   generalize hc:(txt l)[k]'hlt2=c at *
   by_cases h1:48≤c.toNat∧c.toNat≤57
   ·obtain ⟨h1a,h1b⟩:=h1
    have hd:dgt c=some [c]:=by unfold dgt; rw [if_pos ⟨h1a,h1b⟩]
    rw [hd] at htk
    go_wp2_with (go_at_call 164; refine (ZsS w.heap.size w.heap.size _ _ _ hI (by rw [Lib.byteCells_length]; omega) hws).mono ?_; rintro e W1 ⟨rfl,hI1,hb1⟩)
    go_roundw
    case rel=>
     refine ⟨k+1,acc++[c],by omega,by simp,htk,by simp; omega,?_,Below.trans hu hb1⟩
     rw [Lib.byteCells_append]
     exact Or.inr hI1
    case measure=>simp [intOf]; omega
   ·by_cases h2:65≤c.toNat∧c.toNat≤90
    ·obtain ⟨h2a,h2b⟩:=h2
     have hd:dgt c=some (Lib.itoa ((c.toNat-55:Nat):Int)):=by unfold dgt; rw [if_neg h1,if_pos ⟨h2a,h2b⟩]
     have hdl:=Znq hd
     rw [hd] at htk
     have hF:=Zjp (c.toNat-55) (by omega)
     rw [show ((c.toNat-55:Nat):Int)=((c.toNat:Int)-65)+10 by omega] at hF htk hdl
     go_wp2_with (first
      | (go_at_call 40; refine (hF _).mono ?_; rintro e w1 ⟨rfl,rfl⟩)
      | (go_at_call 161; refine (ZuP w.heap.size w.heap.size _ _ _ hI (by rw [Lib.byteCells_length,Zo]; omega) hws).mono ?_; rintro e W1 ⟨rfl,hI1,hb1⟩))
     go_roundw
     case rel=>
      refine ⟨k+1,acc++_,by omega,by simp,htk,by simp; omega,?_,Below.trans hu hb1⟩
      rw [Lib.byteCells_append]
      rw [Lib.strCells_eq] at hI1
      exact Or.inr hI1
     case measure=>simp [intOf]; omega
    ·have hd:dgt c=none:=by unfold dgt; rw [if_neg h1,if_neg h2]
     have hn:=Zmb hg (by rw [hd])
     go_wp2
     all_goals (go_ret2; first | exact ⟨rfl,hu⟩ | (rw [hn]; exact ⟨rfl,hu⟩))
  ·have hkl:k=l.length:=by omega
   subst hkl
   rw [List.take_length] at hacc
   go_wp2_with (go_at_call 163; refine (Tryz.Builder_String_any w.heap.size w.heap.size acc _ hI hws).mono ?_; rintro e W1 ⟨rfl,hb1⟩)
   go_ret2
   rw [hacc]
   exact ⟨rfl,Below.trans hu hb1⟩
theorem Zhh {P:Program} {f:FuncId} {args:List PV} {r:PV} {val:Value} (h1:∀ (w:World) (E:Env),Rep w E r val)
 (h:∀ (S:Nat→Prop) (β:Nat→Option Blk) (w:World) (vs:Array Value),(∀ b,S b→b<w.heap.size)→TabF w→vs.size=args.length→(∀ (i:Nat) (p:PV),args[i]?=some p→∃ x,vs[i]?=some x∧Rep w (E1 S β 0) p x)→
  Calls P f vs w fun e w'=>e=.returned val∧Up w w'):Zd1 P f args [] r []:=by
 intro S β w vs ω hk hl ha
 refine (h S β w vs hk.sz hk.tab.here hl fun i p hp=>by obtain ⟨x,h1,h2⟩:=ha i p hp; exact ⟨x,h1,h2.toω⟩).mono ?_
 rintro e w' ⟨rfl,hu⟩
 refine ⟨val,E1 S β 0,rfl,⟨⟨hu.os,hu.tape,hu.output,hu.size,fun b hb _=>hu.block b hb⟩,fun b hb=>Nat.lt_of_lt_of_le (hk.sz b hb) hu.size,fun l B hB hz=>?_,hk.inj,hk.used,hk.bu,fun l mb hm=>(by simp at hm),hk.dom,hk.tab,fun _ _ h=>h.elim⟩,fun b h=>h,fun b h=>.inl h,⟨fun l B _ h=>h,fun _ _ h=>h.elim⟩,h1 _ _⟩
 obtain ⟨a,b,c⟩:=hk.own l B hB hz
 exact ⟨a,Nat.lt_of_lt_of_le b hu.size,c⟩
theorem rv1 {w:World} {E:Env} {a x:Value} (h:Rep w E (.v a) x):x=a:=h.v_inv.1
theorem ar1 {vs:Array Value} {x0:Value} (h:vs.size=1) (h0:vs[0]?=some x0):vs=#[x0]:=by
 apply Array.ext (by simp [h])
 intro i h2 h3
 obtain rfl:i=0:=by omega
 simpa using (Array.getElem?_eq_some_iff.1 h0).2
theorem ar2 {vs:Array Value} {x0 x1:Value} (h:vs.size=2) (h0:vs[0]?=some x0) (h1:vs[1]?=some x1):vs=#[x0,x1]:=by
 apply Array.ext (by simp [h])
 intro i hi h3
 have a0:=(Array.getElem?_eq_some_iff.1 h0).2
 have a1:=(Array.getElem?_eq_some_iff.1 h1).2
 match i,hi with
 | 0,_=>simpa using a0
 | 1,_=>simpa using a1
 | i+2,hi=>omega
def in64 (n:Int):Prop:=-9223372036854775808≤n∧n≤9223372036854775807
instance (n:Int):Decidable (in64 n):=by unfold in64; infer_instance
def ZI (n:Int):Option ByteArray:=if in64 n then some (txt (Lib.itoa n)) else none
theorem Zif (n:Int) {r:ByteArray} (H:ZI n=some r):Zd1 Tryz.prog 40 [vi n] [] (Go.Proofs.YtkfbakhnpfmfmaaGreatDoor.vs r) []:=by
 unfold ZI at H
 split at H
 case isFalse=>cases H
 rename_i hn
 obtain rfl:=Option.some.inj H
 refine Zhh (fun w E=>.c (.v _ rfl)) fun S β w vs hsz ht hl ha=>?_
 obtain ⟨x,hx,hr⟩:=ha 0 _ rfl
 obtain rfl:=ar1 hl hx
 obtain rfl:=rv1 hr
 exact Zg6 n hn.1 hn.2 w ht
instance (n:Int):CT Tryz.prog (ZI n):=⟨40,[vi n],[],fun r=>vs r,fun r=>[],Zif n⟩
def Zs (n:Int):Option ByteArray:=if in64 n then some (txt (Lib.itoa n)) else none
theorem Zih (n:Int) {r:ByteArray} (H:Zs n=some r):Zd1 Tryz.prog 47 [vi n] [] (Go.Proofs.YtkfbakhnpfmfmaaGreatDoor.vs r) []:=by
 unfold Zs at H
 split at H
 case isFalse=>cases H
 rename_i hn
 obtain rfl:=Option.some.inj H
 refine Zhh (fun w E=>.c (.v _ rfl)) fun S β w vs hsz ht hl ha=>?_
 obtain ⟨x,hx,hr⟩:=ha 0 _ rfl
 obtain rfl:=ar1 hl hx
 obtain rfl:=rv1 hr
 exact Zka n hn.1 hn.2 w
instance (n:Int):CT Tryz.prog (Zs n):=⟨47,[vi n],[],fun r=>vs r,fun r=>[],Zih n⟩
def Zc4 (n d:Int):Option ByteArray:=if in64 n∧0≤d∧d≤20 then some (txt (padL n d.toNat)) else none
theorem Zkf (n d:Int) {r:ByteArray} (H:Zc4 n d=some r):Zd1 Tryz.prog 84 [vi n,vi d] [] (Go.Proofs.YtkfbakhnpfmfmaaGreatDoor.vs r) []:=by
 unfold Zc4 at H
 split at H
 case isFalse=>cases H
 rename_i hn
 obtain rfl:=Option.some.inj H
 refine Zhh (fun w E=>.c (.v _ rfl)) fun S β w vs hsz ht hl ha=>?_
 obtain ⟨x,hx,hr⟩:=ha 0 _ rfl
 obtain ⟨x1,hx1,hr1⟩:=ha 1 _ rfl
 obtain rfl:=ar2 hl hx hx1
 obtain rfl:=rv1 hr
 obtain rfl:=rv1 hr1
 have:=ZnQ n d.toNat hn.1.1 hn.1.2 (by omega) w ht
 rwa [show ((d.toNat:Nat):Int)=d by omega] at this
instance (n d:Int):CT Tryz.prog (Zc4 n d):=⟨84,[vi n,vi d],[],fun r=>vs r,fun r=>[],Zkf n d⟩
def ZdQ (s:ByteArray):Option (ByteArray × Bool):=if s.size≤1000000000 then some (txt ((dgts s.data.toList).getD []),(dgts s.data.toList).isSome) else none
theorem Zke (s:ByteArray) {r:ByteArray × Bool} (H:ZdQ s=some r):Zd1 Tryz.prog 120 [Go.Proofs.YtkfbakhnpfmfmaaGreatDoor.vs s] [] (.tu [Go.Proofs.YtkfbakhnpfmfmaaGreatDoor.vs r.1,vb r.2]) []:=by
 unfold ZdQ at H
 split at H
 case isFalse=>cases H
 rename_i hn
 obtain rfl:=Option.some.inj H
 refine Zhh (val:=.tuple #[.string (txt ((dgts s.data.toList).getD [])),.bool ((dgts s.data.toList).isSome)]) (fun w E=>.tu _ _ rfl fun j p x hp hx=>?_) fun S β w vs hsz ht hl ha=>?_
 ·match j,hp,hx with
  | 0,hp,hx=>simp at hp hx; subst hp hx; exact .c (.v _ rfl)
  | 1,hp,hx=>simp at hp hx; subst hp hx; exact .c (.v _ rfl)
  | j+2,hp,hx=>simp at hx
 ·obtain ⟨x,hx,hr⟩:=ha 0 _ rfl
  obtain rfl:=ar1 hl hx
  obtain rfl:=rv1 hr
  have:=Znr s.data.toList (by rw [Array.length_toList]; exact hn) w
  rwa [show txt s.data.toList=s from ByteArray.ext (by simp [txt])] at this
instance (s:ByteArray):CT Tryz.prog (ZdQ s):=⟨120,[vs s],[],fun r=>.tu [vs r.1,vb r.2],fun r=>[],Zke s⟩
end Go.Proofs.YtkfbakhnpfmfmaaGreatDoor
namespace Go.Proofs.YtkfbakhnpfmfmaaGreatDoor
set_option maxRecDepth 10000
open Go
set_option linter.unusedVariables false
set_option linter.unusedSimpArgs false
def Zdo (c:UInt8):List UInt8→List (List UInt8)
 | []=>[[]]
 | x::xs=>if x=c then []::Zdo c xs else match Zdo c xs with
  | []=>[[x]]
  | p::ps=>(x::p)::ps
theorem ZbZ {c:UInt8}:∀ {l:List UInt8},c ∉ l→Zdo c l=[l]
 | [],_=>rfl
 | x::xs,h=>by
  have h1:¬ x=c:=fun e=>h (by simp [e])
  have h2:c ∉ xs:=fun e=>h (List.mem_cons_of_mem _ e)
  simp [Zdo,h1,ZbZ h2]
theorem Za0 {c:UInt8} {b:List UInt8}:∀ {a:List UInt8},c ∉ a→Zdo c (a++c::b)=a::Zdo c b
 | [],_=>by simp [Zdo]
 | x::xs,h=>by
  have h1:¬ x=c:=fun e=>h (by simp [e])
  have h2:c ∉ xs:=fun e=>h (List.mem_cons_of_mem _ e)
  simp [Zdo,h1,Za0 h2]
theorem ZiZ (c:UInt8):∀ l:List UInt8,c ∉ l∨∃ a b,l=a++c::b∧c ∉ a
 | []=>.inl (by simp)
 | x::xs=>by
  by_cases hx:x=c
  ·exact .inr ⟨[],xs,by simp [hx],by simp⟩
  ·rcases ZiZ c xs with h | ⟨a,b,rfl,h⟩
   ·exact .inl (by simp [h,Ne.symm hx])
   ·exact .inr ⟨x::a,b,rfl,by simp [h,Ne.symm hx]⟩
theorem Zuu {c:UInt8} {l:List UInt8} {i:Nat}:Lib.occAt l [c] i=true↔l[i]?=some c:=by
 unfold Lib.occAt
 rw [← List.head?_drop]
 cases l.drop i with
 | nil=>simp
 | cons x xs=>
  simp only [List.head?_cons,Option.some.injEq]
  constructor
  ·intro h; simp [List.isPrefixOf] at h; exact h.symm
  ·rintro rfl; simp [List.isPrefixOf]
theorem Zuv {c:UInt8} {l:List UInt8} {i:Nat} (h:l[i]?≠some c):Lib.occAt l [c] i=false:=by
 cases e:Lib.occAt l [c] i with
 | false=>rfl
 | true=>exact absurd (Zuu.1 e) h
theorem Zmj {c:UInt8} {a b:List UInt8} (h:c ∉ a):Lib.index (a++c::b) [c]=a.length:=by
 refine Lib.index_first (by simp) (Zuu.2 (by simp)) fun j hj=>Zuv fun e=>h ?_
 rw [List.getElem?_append_left hj] at e
 exact List.mem_of_getElem? e
theorem ZoR {c:UInt8} {l:List UInt8} (h:c ∉ l):Lib.index l [c]=-1:=
 Lib.index_none fun j _=>Zuv fun e=>h (List.mem_of_getElem? e)
theorem Zm5 (c:UInt8):∀ (n:Nat) (l:List UInt8),l.length≤n→Lib.splitK [c] 0 (Lib.count l [c]) l=Zdo c l
 | n,l,hn=>by
  rcases ZiZ c l with h | ⟨a,b,rfl,h⟩
  ·rw [Lib.count_miss (ZoR h),ZbZ h]; rfl
  ·have hi:=Zmj (b:=b) h
   have hd:(a++c::b).drop (a.length+1)=b:=by simp
   rw [Lib.count_hit (by simp) hi,Za0 h,Nat.add_comm 1]
   simp only [List.length_cons,List.length_nil,Nat.zero_add,hd]
   unfold Lib.splitK
   have hm:¬ (Lib.index (a++c::b) [c] == -1)=true:=fun e=>by have:=beq_iff_eq.1 e; omega
   rw [if_neg hm,hi]
   simp only [Int.toNat_natCast,Nat.add_zero,List.length_cons,List.length_nil,Nat.zero_add,List.take_left',hd]
   match n,hn with
   | 0,hn=>simp at hn
   | n+1,hn=>
    rw [Zm5 c n b (by simp at hn; omega)]
theorem Znm {c:UInt8} {a b:List UInt8} (h:c ∉ a):Lib.cut (a++c::b) [c]=(a,b,true):=by
 have hi:=Zmj (b:=b) h
 unfold Lib.cut
 simp [hi]
theorem ZqM {c:UInt8} {l:List UInt8} (h:c ∉ l):Lib.cut l [c]=(l,[],false):=by
 have hi:=ZoR h
 unfold Lib.cut
 simp [hi]
theorem Zpk {k:Nat} (h:k<10):(UInt8.ofNat (48+k)).toNat=48+k:=by simp; omega
theorem ZmD:∀ (a b:List UInt8) (acc:Nat),Lib.parseUint10 acc (a++b)=(match Lib.parseUint10 acc a with | .ok u=>Lib.parseUint10 u b | Lib.NumEnd.syntax=>Lib.NumEnd.syntax | .range=>.range)
 | [],b,acc=>rfl
 | c::a,b,acc=>by
  simp only [List.cons_append,Lib.parseUint10]
  split
  ·split
   ·rfl
   ·split
    ·rfl
    ·exact ZmD a b _
  ·rfl
theorem ZhP:∀ (n u:Nat),u≤n→u<1844674407370955161→Lib.parseUint10 0 (Lib.decDigits u)=.ok u
 | n,u,hn,hu=>by
  rw [Lib.decDigits]
  split
  ·rename_i h
   have e:=Zpk h
   simp only [Lib.parseUint10,e]
   rw [if_pos (by omega),if_neg (by omega),if_neg (by omega)]
   congr 1; omega
  ·rename_i h
   have e:=Zpk (k:=u % 10) (by omega)
   match n,hn with
   | 0,hn=>omega
   | n+1,hn=>
    rw [ZmD,ZhP n (u / 10) (by omega) (by omega)]
    simp only [Lib.parseUint10,e]
    rw [if_pos (by omega),if_neg (by omega),if_neg (by omega)]
    congr 1; omega
theorem Zwv (u:Nat):Lib.decDigits u≠[]:=by
 rw [Lib.decDigits]; split <;> simp
theorem Znn:∀ (n u:Nat),u≤n→∀ c∈Lib.decDigits u,48≤c.toNat∧c.toNat≤57
 | n,u,hn,c,hc=>by
  rw [Lib.decDigits] at hc
  split at hc
  ·rename_i h
   rw [List.mem_singleton.1 hc,Zpk h]; omega
  ·rename_i h
   rcases List.mem_append.1 hc with h1 | h1
   ·match n,hn with
    | 0,hn=>omega
    | n+1,hn=>exact Znn n (u / 10) (by omega) c h1
   ·rw [List.mem_singleton.1 h1,Zpk (by omega)]; omega
theorem ZnE (u:Nat):Lib.itoa (u:Int)=Lib.decDigits u:=by unfold Lib.itoa; rw [if_neg (by omega)]; simp
theorem ZoV {n:Int} (h:0≤n):∀ c∈Lib.itoa n,48≤c.toNat∧c.toNat≤57:=by
 obtain ⟨u,rfl⟩:=Int.eq_ofNat_of_zero_le h
 rw [ZnE]; exact Znn u u (Nat.le_refl _)
theorem Zvy {l:List UInt8} (h:∀ c∈l,48≤c.toNat∧c.toNat≤57) {c:UInt8} (hc:c.toNat<48∨57<c.toNat):c ∉ l:=fun hm=>by have:=h c hm; omega
theorem ZlU {n:Int} (h0:0≤n) (h1:n≤1000000000000):Lib.atoiAll (Lib.itoa n)=.ok n:=by
 obtain ⟨u,rfl⟩:=Int.eq_ofNat_of_zero_le h0
 have hp:=ZhP u u (Nat.le_refl _) (by omega)
 have hd:=Znn u u (Nat.le_refl _)
 have hne:=Zwv u
 rw [ZnE]
 revert hp hd hne
 generalize Lib.decDigits u=l
 intro hp hd hne
 cases l with
 | nil=>exact absurd rfl hne
 | cons c r=>
  have:=hd c List.mem_cons_self
  have e1:¬ c.toNat=43:=by omega
  have e2:¬ c.toNat=45:=by omega
  have e3:¬ (9223372036854775808:Nat)≤u:=by omega
  unfold Lib.atoiAll Lib.parseMag
  simp [e1,e2,hp,e3]
theorem Zjb {l:List UInt8} {v:Int} (h:Lib.atoiAll l=.ok v):-9223372036854775808≤v∧v≤9223372036854775807:=by
 cases l with
 | nil=>cases h
 | cons c r=>
  unfold Lib.atoiAll at h
  simp only at h
  split at h
  ·cases h
  ·cases h
  ·split at h
   ·cases h
   ·split at h
    ·cases h
    ·injection h with h
     subst h
     split <;> omega
end Go.Proofs.YtkfbakhnpfmfmaaGreatDoor
namespace Go.Proofs.YtkfbakhnpfmfmaaGreatDoor
set_option maxRecDepth 10000
open Go.RowKit
set_option linter.unusedVariables false
set_option linter.unusedSimpArgs false
def Zaw (s sep:ByteArray):Option (ByteArray × ByteArray × Bool):=if s.size≤100000000 then some (txt (Lib.cut s.data.toList sep.data.toList).1,txt (Lib.cut s.data.toList sep.data.toList).2.1,(Lib.cut s.data.toList sep.data.toList).2.2) else none
def Zbq (s sep:ByteArray):Option (List ByteArray):=if s.size≤100000000∧1≤sep.size then some (Lib.splitB sep 0 (Lib.countB s sep) s) else none
def ZK (s:ByteArray):Option (Int × Bool):=if s.size≤100000000 then some (match Lib.atoiAll s.data.toList with
 | .ok n=>if 0≤n∧n≤1000000000∧txt (Lib.itoa n)=s then (n,true) else (0,false)
 | _=>(0,false)) else none
theorem ZiS (l:List UInt8):(txt l).data.toList=l:=by simp [txt]
theorem Zq9 {n:Int} (h0:0≤n) (h1:n≤1000000000) (hl:(Lib.itoa n).length≤100000000):ZK (txt (Lib.itoa n))=some (n,true):=by
 unfold ZK
 rw [if_pos (by rw [Zo]; exact hl),ZiS,ZlU h0 (by omega)]
 simp [h0,h1]
theorem ZfC {s:ByteArray} (hs:s.size≤100000000):∃ r:Int × Bool,ZK s=some r∧in64 r.1:=by
 unfold ZK
 rw [if_pos hs]
 have z:in64 0:=⟨by omega,by omega⟩
 cases h:Lib.atoiAll s.data.toList with
 | ok n=>
  simp only
  by_cases hc:0≤n∧n≤1000000000∧txt (Lib.itoa n)=s
  ·rw [if_pos hc]; exact ⟨_,rfl,⟨by omega,by omega⟩⟩
  ·rw [if_neg hc]; exact ⟨_,rfl,z⟩
 | _=>exact ⟨_,rfl,z⟩
theorem Zji {c:UInt8} {a b:List UInt8} (h:c ∉ a) (hl:a.length+b.length<100000000):Zaw (txt (a++c::b)) (txt [c])=some (txt a,txt b,true):=by
 unfold Zaw
 rw [if_pos (by rw [Zo]; simp; omega),ZiS,ZiS,Znm h]
theorem Zu3 {c:UInt8} {a:List UInt8} (h:c ∉ a) (hl:a.length≤100000000):Zaw (txt a) (txt [c])=some (txt a,txt [],false):=by
 unfold Zaw
 rw [if_pos (by rw [Zo]; exact hl),ZiS,ZiS,ZqM h]
theorem ZlD {c:UInt8} {L:List UInt8} (hL:L.length≤100000000):Zbq (txt L) (txt [c])=some ((Zdo c L).map txt):=by
 unfold Zbq
 rw [if_pos ⟨by rw [Zo]; exact hL,by rw [Zo]; simp⟩]
 congr 1
 have h:=Lib.splitB_data (txt [c]) 0 (Lib.countB (txt L) (txt [c])) (txt L)
 rw [ZiS,ZiS] at h
 have hc:Lib.countB (txt L) (txt [c])=Lib.count L [c]:=by unfold Lib.countB; rw [ZiS,ZiS]
 rw [hc] at h ⊢
 rw [Zm5 c L.length L (Nat.le_refl _)] at h
 rw [← h,List.map_map]
 have e:(txt ∘ fun x:ByteArray=>x.data.toList)=id:=by funext x; exact ByteArray.ext (by simp [txt])
 rw [e,List.map_id]
theorem ZoZ {b:Nat}:¬ own0 (fun _=>none) b:=by rintro ⟨l,B,h,_⟩; cases h
theorem Zd1.val {P:Program} {f:FuncId} {args:List PV} {val:Value} (h:Zd1 P f args [] (.v val) []) {w:World} (ht:Tab w (own0 fun _=>none)) {vs:Array Value} (hl:vs.size=args.length) (ha:∀ (i:Nat) (p:PV),args[i]?=some p→∃ x,vs[i]?=some x∧Rep w (E1 (fun b=>b<w.heap.size) (fun _=>none) 0) p x):
 Calls P f vs w fun e w'=>e=.returned val∧Up w w':=by
 have hok:Ok w (own0 fun _=>none) (E1 (fun b=>b<w.heap.size) (fun _=>none) 0) w []:=
  ⟨UpO.refl _ _,fun b h=>h,fun l B h=>(by cases h),fun l l' B B' h=>(by cases h),fun l h=>absurd h (Nat.not_lt_zero l),fun l B h=>(by cases h),fun l mb h=>(by simp at h),fun l B h=>(by cases h),ht,fun _ _ h=>h.elim⟩
 refine (h (fun b=>b<w.heap.size) (fun _=>none) w vs (fun _ _=>False) hok hl ha).mono ?_
 rintro e w' ⟨v,E',rfl,hk,_,_,_,hr⟩
 obtain ⟨rfl,_⟩:=hr.v_inv
 exact ⟨rfl,hk.up.os,hk.up.tape,hk.up.output,hk.up.size,fun b hb=>hk.up.block b hb ZoZ⟩
theorem Zv4 {w w':World} (h:TabT w) (he:∀ b,b<w.heap.size→w'.heap[b]?=w.heap[b]?):TabT w':=by
 unfold TabT Lib.TabIs World.var? at *
 cases hg : Tryz.prog.globalNamed "internal/strconv.uint64pow10" with
 | none=>rw [hg] at h; cases h
 | some g=>
  rw [hg] at h
  simp only [Option.bind_some] at h ⊢
  have hlt:g<w.heap.size:=by
   rcases Nat.lt_or_ge g w.heap.size with h' | h'
   ·exact h'
   ·rw [Array.getElem?_eq_none h'] at h; cases h
  rw [he g hlt]
  exact h
theorem Zk1 {w w':World} {b:Nat} {v:Value} (h:w.cell? ⟨b,0,none⟩=some v) (he:∀ b,b<w.heap.size→w'.heap[b]?=w.heap[b]?):w'.cell? ⟨b,0,none⟩=some v:=by
 have hlt:b<w.heap.size:=by
  rcases Nat.lt_or_ge b w.heap.size with h' | h'
  ·exact h'
  ·simp [World.cell?,Array.getElem?_eq_none h'] at h
 rw [← h]
 simp [World.cell?,he b hlt]
theorem Zsw {w w':World} (h:TabF w) (he:∀ b,b<w.heap.size→w'.heap[b]?=w.heap[b]?):TabF w':=by
 obtain ⟨m,hm⟩:=h.mx
 obtain ⟨t,p,ht⟩:=h.es
 obtain ⟨t1,p1,ht1⟩:=h.er
 exact ⟨Zv4 h.tab he,⟨m,Zk1 hm he⟩,⟨t,p,Zk1 ht he⟩,⟨t1,p1,Zk1 ht1 he⟩⟩
theorem Zj3 {w w':World} (h:TabF w) (hu:Up w w'):TabF w':=Zsw h fun b hb=>hu.block b hb
theorem tab_of_F {w:World} (h:TabF w):Tab w (own0 fun _=>none):=⟨fun b=>b<w.heap.size,fun b hb=>⟨hb,ZoZ⟩,fun w' hw'=>Zsw h hw'⟩
instance:Enc ByteArray where
 cells x:=[.string x]
 k:=1
 len _:=rfl
 pos:=by decide
 one:=by simp [Value.oneCell']
theorem ZqX (ls:List ByteArray):flat ls=ls.map Value.string:=by
 induction ls with
 | nil=>rfl
 | cons x xs ih=>rw [Zgo,ih]; rfl
set_option maxHeartbeats 2000000
theorem Zkg (s sep:ByteArray) {r:ByteArray × ByteArray × Bool} (H:Zaw s sep=some r):Zd1 Tryz.prog 26 [Go.Proofs.YtkfbakhnpfmfmaaGreatDoor.vs s,Go.Proofs.YtkfbakhnpfmfmaaGreatDoor.vs sep] [] (.tu [Go.Proofs.YtkfbakhnpfmfmaaGreatDoor.vs r.1,Go.Proofs.YtkfbakhnpfmfmaaGreatDoor.vs r.2.1,vb r.2.2]) []:=by
 unfold Zaw at H
 split at H
 case isFalse=>cases H
 rename_i hn
 obtain rfl:=Option.some.inj H
 refine Zhh (val:=.tuple #[.string (txt (Lib.cut s.data.toList sep.data.toList).1),.string (txt (Lib.cut s.data.toList sep.data.toList).2.1),.bool (Lib.cut s.data.toList sep.data.toList).2.2]) (fun w E=>.tu _ _ rfl fun j p x hp hx=>?_) fun S β w vs hsz ht hl ha=>?_
 ·match j,hp,hx with
  | 0,hp,hx | 1,hp,hx | 2,hp,hx=>simp at hp hx; subst hp hx; exact .c (.v _ rfl)
  | j+3,hp,hx=>simp at hx
 ·obtain ⟨x,hx,hr⟩:=ha 0 _ rfl
  obtain ⟨x1,hx1,hr1⟩:=ha 1 _ rfl
  obtain rfl:=ar2 hl hx hx1
  obtain rfl:=rv1 hr
  obtain rfl:=rv1 hr1
  obtain ⟨m,hm⟩:=ht.mx
  refine (Tryz.strings_Cut s sep m w (by omega) hm).mono ?_
  rintro e w' ⟨rfl,n,rfl⟩
  exact ⟨rfl,by (repeat (first | exact Up.rfl' _ | (refine Up.al _ ?_) | (refine Up.dr _ ?_) | (refine Up.dr1 ?_) | (refine Up.sc ?_ (by first | exact Nat.le_refl _ | (simp; done) | omega) _) | (refine Up.step (by assumption) ?_)))⟩
instance (s sep:ByteArray):CT Tryz.prog (Zaw s sep):=⟨26,[vs s,vs sep],[],fun r=>.tu [vs r.1,vs r.2.1,vb r.2.2],fun r=>[],Zkg s sep⟩
theorem ZiL (s sep:ByteArray) {r:List ByteArray} (H:Zbq s sep=some r):Zd1 Tryz.prog 34 [Go.Proofs.YtkfbakhnpfmfmaaGreatDoor.vs s,Go.Proofs.YtkfbakhnpfmfmaaGreatDoor.vs sep] [] (.ms 0) [some ⟨.of 9,1,r.map cStr⟩]:=by
 unfold Zbq at H
 split at H
 case isFalse=>cases H
 rename_i hn
 obtain rfl:=Option.some.inj H
 intro S β w vs ω hk hl ha
 obtain ⟨x,hx,hr⟩:=ha 0 _ rfl
 obtain ⟨x1,hx1,hr1⟩:=ha 1 _ rfl
 obtain rfl:=ar2 hl hx hx1
 obtain rfl:=rv1 hr
 obtain rfl:=rv1 hr1
 obtain ⟨m,hm⟩:=hk.tab.here.mx
 refine (Tryz.strings_Split s sep m w (by omega) hm hn.2).mono ?_
 rintro e w' ⟨rfl,rfl⟩
 have hl2:=Lib.splitB_all sep hn.2 0 _ s rfl
 have hle:=Lib.countB_le sep hn.2 _ s (Nat.le_refl _)
 have ho:Own (w.alloc (.cells ((Lib.splitB sep 0 (Lib.countB s sep) s).map Value.string).toArray 9)) w.heap.size 9 (.slice (some ⟨w.heap.size,0,none⟩) (Lib.countB s sep+1) (Lib.countB s sep+1)) (Lib.splitB sep 0 (Lib.countB s sep) s):=by
  refine ⟨ZgN _,.inr ⟨w.heap.size,Lib.countB s sep+1,((Lib.splitB sep 0 (Lib.countB s sep) s).map Value.string).toArray,by rw [hl2],Nat.le_refl _,Array.getElem?_push_size,by omega,by unfold maxLen; omega,?_,?_⟩⟩
  ·rw [List.size_toArray,List.length_map,hl2]; exact (Nat.mul_one _).symm
  ·rw [ZqX,List.toList_toArray]; exact List.take_of_length_le (by rw [List.length_map]; exact Nat.le_of_eq (Nat.mul_one _).symm)
 obtain ⟨E',h1,h2,h3,h4,h5⟩:=Zmq (c:=cStr) hk ho (by (repeat (first | exact Up.rfl' _ | (refine Up.al _ ?_) | (refine Up.dr _ ?_) | (refine Up.dr1 ?_) | (refine Up.sc ?_ (by first | exact Nat.le_refl _ | (simp; done) | omega) _) | (refine Up.step (by assumption) ?_)))) (fun x=>⟨rfl,fun j p hj=>by
  cases j with
  | zero=>obtain rfl:Go.Proofs.YtkfbakhnpfmfmaaGreatDoor.vs x=p:=by simpa using hj
          exact ⟨_,rfl,rfl,fun w E=>.c (.v _ rfl)⟩
  | succ j=>simp [cStr] at hj⟩)
 exact ⟨_,E',rfl,h1,h2,h3,h4,h5⟩
instance (s sep:ByteArray):CT Tryz.prog (Zbq s sep):=⟨34,[vs s,vs sep],[],fun r=>.ms 0,fun r=>[some ⟨.of 9,1,r.map cStr⟩],ZiL s sep⟩
@[go_sem] theorem ZzG:isFn Tryz.prog 26:=⟨_,Tryz.func26,rfl,by kernel_rfl⟩
@[go_sem] theorem Zxz:isFn Tryz.prog 34:=⟨_,Tryz.func34,rfl,by kernel_rfl⟩
theorem ZtY {w w':World} {T:TypeId} (h:w'=w∨∃ t,w'=Lib.bytesWorld w T t):Up w w':=by
 rcases h with rfl | ⟨t,rfl⟩
 ·exact Below.refl _ _
 ·exact Lib.bytesWorld_below _ _ _
theorem Zgk (s:ByteArray) (hs:s.size≤100000000) {v:Int} (h:Lib.atoiAll s.data.toList=.ok v) (w:World):Calls Tryz.prog 52 #[.string s] w fun e w'=>e=.returned (.tuple #[.int .i64 v,.nilIface])∧Up w w':=
 (Tryz.strconv_Atoi_ok s (by omega) v h w).mono fun e w' ⟨h1,h2⟩=>⟨h1,ZtY h2⟩
theorem ZiV (s:ByteArray) (hs:s.size≤100000000) (h:∀ v,Lib.atoiAll s.data.toList≠.ok v) (w:World) (ht:TabF w):Calls Tryz.prog 52 #[.string s] w fun e w'=>∃ n t p,e=.returned (.tuple #[.int .i64 n,.iface t p])∧Up w w':=by
 obtain ⟨t1,p1,h1⟩:=ht.es
 obtain ⟨t2,p2,h2⟩:=ht.er
 cases hc:Lib.atoiAll s.data.toList with
 | ok v=>exact absurd hc (h v)
 | range=>exact (Tryz.strconv_Atoi_range s (by omega) hc _ w h2 (.inr ⟨_,_,rfl⟩)).mono fun e w' ⟨N,h1,_,_,h2⟩=>⟨_,_,_,h1,h2⟩
 | _=>exact (Tryz.strconv_Atoi_syntax s (by omega) hc _ w h1 (.inr ⟨_,_,rfl⟩)).mono fun e w' ⟨N,h1,_,_,h2⟩=>⟨_,_,_,h1,h2⟩
theorem Zt4 {z s:ByteArray} (h:¬ z=s):(z.toList == s.toList)=false:=by
 rw [beq_eq_false_iff_ne,ByteArray.toList_eq,ByteArray.toList_eq]
 exact fun e=>h (ByteArray.ext (Array.toList_inj.1 e))
theorem Zll (s:ByteArray) (hs:s.size≤100000000) {v:Int} (h:Lib.atoiAll s.data.toList=.ok v) (w:World) (ht:TabF w):Calls Tryz.prog 28 #[.string s] w fun e w'=>e=.returned (.tuple #[.int .i64 (if 0≤v∧v≤1000000000∧txt (Lib.itoa v)=s then v else 0),.bool (decide (0≤v∧v≤1000000000∧txt (Lib.itoa v)=s))])∧Up w w':=by
 obtain ⟨b0,b1⟩:=Zjb h
 have hA:=Zgk s hs h
 have hI:=fun w1 (hu:Up w w1)=>Tryz.strconv_Itoa v b0 b1 w1 (Zj3 ht hu).tab
 by_cases c0:v<0
 ·rw [if_neg (by omega),decide_eq_false (by omega)]
  go_enter Tryz.func28,Tryz.ntmps28
  go_wp2_with (go_at_call 52; refine (hA _).mono ?_; rintro e w1 ⟨rfl,hu1⟩)
  go_ret2
  exact ⟨rfl,hu1⟩
 by_cases c1:1000000000<v
 ·rw [if_neg (by omega),decide_eq_false (by omega)]
  go_enter Tryz.func28,Tryz.ntmps28
  go_wp2_with (go_at_call 52; refine (hA _).mono ?_; rintro e w1 ⟨rfl,hu1⟩)
  go_ret2
  exact ⟨rfl,hu1⟩
 have hI2:∀ w1,Up w w1→Calls Tryz.prog 53 #[.int .i64 v] w1 fun e w'=>e=.returned (.string (txt (Lib.itoa v)))∧Up w1 w':=fun w1 hu=>(hI w1 hu).mono fun e w' ⟨h1,k,os,h2⟩=>⟨h1,h2 ▸ ZsE _ _ _⟩
 by_cases ce:txt (Lib.itoa v)=s
 ·rw [if_pos ⟨by omega,by omega,ce⟩,decide_eq_true ⟨by omega,by omega,ce⟩]
  rw [ce] at hI2
  clear hI ce
  go_enter Tryz.func28,Tryz.ntmps28
  go_wp2_with (first
   | (go_at_call 52; refine (hA _).mono ?_; rintro e w1 ⟨rfl,hu1⟩)
   | (go_at_call 53; refine (hI2 _ (by assumption)).mono ?_; rintro e w2 ⟨rfl,hu2⟩))
  go_ret2
  exact ⟨rfl,Up.step hu2 hu1⟩
 ·rw [if_neg fun h=>ce h.2.2,decide_eq_false fun h=>ce h.2.2]
  clear hI
  generalize txt (Lib.itoa v)=z at *
  have hq:=Zt4 ce
  go_enter Tryz.func28,Tryz.ntmps28
  go_wp2_with (first
   | (go_at_call 52; refine (hA _).mono ?_; rintro e w1 ⟨rfl,hu1⟩)
   | (go_at_call 53; refine (hI2 _ (by assumption)).mono ?_; rintro e w2 ⟨rfl,hu2⟩))
  go_ret2
  exact ⟨rfl,Up.step hu2 hu1⟩
theorem ZiE (s:ByteArray) (hs:s.size≤100000000) (h:∀ v,Lib.atoiAll s.data.toList≠.ok v) (w:World) (ht:TabF w):Calls Tryz.prog 28 #[.string s] w fun e w'=>e=.returned (.tuple #[.int .i64 0,.bool false])∧Up w w':=by
 have hA:=ZiV s hs h
 go_enter Tryz.func28,Tryz.ntmps28
 go_wp2_with (go_at_call 52; refine (hA _ ht).mono ?_; rintro e w1 ⟨n,t,p,rfl,hu1⟩)
 go_ret2
 exact ⟨rfl,hu1⟩
theorem ZiI (s:ByteArray) {r:Int × Bool} (H:ZK s=some r):Zd1 Tryz.prog 28 [Go.Proofs.YtkfbakhnpfmfmaaGreatDoor.vs s] [] (.tu [vi r.1,vb r.2]) []:=by
 unfold ZK at H
 split at H
 case isFalse=>cases H
 rename_i hn
 have hr:=Option.some.inj H
 refine Zhh (val:=.tuple #[.int .i64 r.1,.bool r.2]) (fun w E=>.tu _ _ rfl fun j p x hp hx=>?_) fun S β w vs hsz ht hl ha=>?_
 ·match j,hp,hx with
  | 0,hp,hx | 1,hp,hx=>simp at hp hx; subst hp hx; exact .c (.v _ rfl)
  | j+2,hp,hx=>simp at hx
 ·obtain ⟨x,hx,hr1⟩:=ha 0 _ rfl
  obtain rfl:=ar1 hl hx
  obtain rfl:=rv1 hr1
  cases h:Lib.atoiAll s.data.toList with
  | ok v=>
   refine (Zll s hn h w ht).mono fun e w' ⟨h1,h2⟩=>⟨?_,h2⟩
   rw [h1]
   rw [h] at hr
   simp only at hr
   by_cases c:0≤v∧v≤1000000000∧txt (Lib.itoa v)=s
   ·rw [if_pos c] at hr; rw [if_pos c,decide_eq_true c,← hr]
   ·rw [if_neg c] at hr; rw [if_neg c,decide_eq_false c,← hr]
  | _=>
   rw [h] at hr
   rw [← hr]
   exact ZiE s hn (fun v e=>by rw [h] at e; cases e) w ht
instance (s:ByteArray):CT Tryz.prog (ZK s):=⟨28,[vs s],[],fun r=>.tu [vi r.1,vb r.2],fun r=>[],ZiI s⟩
structure Mk (TO:TypeId→Nat→Prop) (D:Nat→Prop) (w w':World):Prop where
 os:w'.os=w.os
 tape:w'.tape=w.tape
 output:w'.output=w.output
 size:w.heap.size≤w'.heap.size
 low:∀ b,b<w.heap.size→¬ D b→w'.heap[b]?=w.heap[b]?
 row:∀ (b:Nat) (cs:Array Value) (T:TypeId),w.heap[b]?=some (.cells cs T (0,0))→∃ cs':Array Value,w'.heap[b]?=some (.cells cs' T (0,0))∧cs'.size=cs.size∧∀ j,TO T j→cs'[j]?=cs[j]?
section
variable {TO:TypeId→Nat→Prop} {D:Nat→Prop} {B:Nat} {w a b:World}
theorem Mk.rfl':Mk TO D w w:=⟨rfl,rfl,rfl,Nat.le_refl _,fun _ _ _=>rfl,fun b cs T h=>⟨cs,h,rfl,fun _ _=>rfl⟩⟩
theorem Mk.trans (h:Mk TO D w a) (k:Mk TO D a b):Mk TO D w b:=
 ⟨k.os.trans h.os,k.tape.trans h.tape,k.output.trans h.output,Nat.le_trans h.size k.size,fun x hx hd=>(k.low x (Nat.lt_of_lt_of_le hx h.size) hd).trans (h.low x hx hd),fun x cs T hx=>by
  obtain ⟨c1,h1,h2,h3⟩:=h.row x cs T hx
  obtain ⟨c2,k1,k2,k3⟩:=k.row x c1 T h1
  exact ⟨c2,k1,k2.trans h2,fun j hj=>(k3 j hj).trans (h3 j hj)⟩⟩
theorem Mk.up (h:Mk TO D w a) (k:Up a b):Mk TO D w b:=
 ⟨k.os.trans h.os,k.tape.trans h.tape,k.output.trans h.output,Nat.le_trans h.size k.size,fun x hx hd=>(k.block x (Nat.lt_of_lt_of_le hx h.size)).trans (h.low x hx hd),fun x cs T hx=>by
  obtain ⟨c1,h1,h2,h3⟩:=h.row x cs T hx
  exact ⟨c1,(k.block x (Array.getElem?_eq_some_iff.1 h1).1).trans h1,h2,h3⟩⟩
theorem Mk.set (h:Mk TO D w a) {g j:Nat} {cs:Array Value} {T:TypeId} (hg:a.heap[g]?=some (.cells cs T (0,0))) (hBg:D g) (hT:¬ TO T j) (v:Value):Mk TO D w (a.setCell ⟨g,j,none⟩ v):=by
 have hs:(a.setCell ⟨g,j,none⟩ v).heap[g]?=some (.cells (cs.setIfInBounds j v) T (0,0)):=heap_setCell_same a g j cs T v hg
 have ho:∀ x,x≠g→(a.setCell ⟨g,j,none⟩ v).heap[x]?=a.heap[x]?:=fun x hx=>heap_setCell_other a ⟨g,j,none⟩ x v hx
 have hz:(a.setCell ⟨g,j,none⟩ v).heap.size=a.heap.size:=by simp
 refine ⟨h.os,h.tape,h.output,by rw [hz]; exact h.size,fun x hx hd=>(ho x (by rintro rfl; exact hd hBg)).trans (h.low x hx hd),fun x c T' hx=>?_⟩
 obtain ⟨c1,h1,h2,h3⟩:=h.row x c T' hx
 by_cases e:x=g
 ·subst e
  rw [hg] at h1
  obtain ⟨rfl,rfl⟩:cs=c1∧T=T':=by simpa using h1
  refine ⟨_,hs,by simpa using h2,fun q hq=>?_⟩
  rw [Array.getElem?_setIfInBounds_ne (by intro e; subst e; exact hT hq)]
  exact h3 q hq
 ·exact ⟨c1,(ho x e).trans h1,h2,h3⟩
def Zhw (w:World) (B:Nat) (T:TypeId) (k:Nat) (v:Value) (n:Nat):Prop:=
 (∃ c,v=.slice none 0 c∧n=0)∨∃ (g c:Nat) (cs:Array Value),v=.slice (some ⟨g,0,none⟩) n c∧B≤g∧w.heap[g]?=some (.cells cs T (0,0))∧n*k≤cs.size
theorem Zhw.mk {T:TypeId} {k:Nat} {v:Value} {n B':Nat} (h:Zhw w B' T k v n) (m:Mk TO D w a):Zhw a B' T k v n:=by
 rcases h with h | ⟨g,c,cs,h1,h2,h3,h4⟩
 ·exact .inl h
 ·obtain ⟨c1,k1,k2,_⟩:=m.row g cs T h3
  exact .inr ⟨g,c,c1,h1,h2,k1,by omega⟩
theorem Zhw.more {T:TypeId} {k:Nat} {v:Value} {n B':Nat} (h:Zhw w B' T k v n) (hB:B≤B'):Zhw w B T k v n:=by
 rcases h with h | ⟨g,c,cs,h1,h2,h3,h4⟩
 ·exact .inl h
 ·exact .inr ⟨g,c,cs,h1,Nat.le_trans hB h2,h3,h4⟩
theorem Zhw.up {T:TypeId} {k:Nat} {v:Value} {n B':Nat} (h:Zhw w B' T k v n) (m:Up w a):Zhw a B' T k v n:=by
 rcases h with h | ⟨g,c,cs,h1,h2,h3,h4⟩
 ·exact .inl h
 ·exact .inr ⟨g,c,cs,h1,h2,(m.block g (Array.getElem?_eq_some_iff.1 h3).1).trans h3,h4⟩
def Zko (w:World) (D:Nat→Prop) (T:TypeId) (k:Nat) (v:Value) (n:Nat):Prop:=
 (∃ c,v=.slice none 0 c∧n=0)∨∃ (g c:Nat) (cs:Array Value),v=.slice (some ⟨g,0,none⟩) n c∧D g∧w.heap[g]?=some (.cells cs T (0,0))∧n*k≤cs.size
theorem Zko.mk {T:TypeId} {k:Nat} {v:Value} {n:Nat} {D':Nat→Prop} (h:Zko w D' T k v n) (m:Mk TO D w a):Zko a D' T k v n:=by
 rcases h with h | ⟨g,c,cs,h1,h2,h3,h4⟩
 ·exact .inl h
 ·obtain ⟨c1,k1,k2,_⟩:=m.row g cs T h3
  exact .inr ⟨g,c,c1,h1,h2,k1,by omega⟩
theorem Zko.up {T:TypeId} {k:Nat} {v:Value} {n:Nat} {D':Nat→Prop} (h:Zko w D' T k v n) (m:Up w a):Zko a D' T k v n:=by
 rcases h with h | ⟨g,c,cs,h1,h2,h3,h4⟩
 ·exact .inl h
 ·exact .inr ⟨g,c,cs,h1,h2,(m.block g (Array.getElem?_eq_some_iff.1 h3).1).trans h3,h4⟩
def RowA (w:World) (g m:Nat) (T:TypeId):Prop:=∃ cs:Array Value,w.heap[g]?=some (.cells cs T (0,0))∧m≤cs.size
theorem RowA.mk {g m:Nat} {T:TypeId} (h:RowA w g m T) (k:Mk TO D w a):RowA a g m T:=by
 obtain ⟨cs,h1,h2⟩:=h
 obtain ⟨c1,k1,k2,_⟩:=k.row g cs T h1
 exact ⟨c1,k1,by omega⟩
theorem RowA.up {g m:Nat} {T:TypeId} (h:RowA w g m T) (k:Up w a):RowA a g m T:=by
 obtain ⟨cs,h1,h2⟩:=h
 exact ⟨cs,(k.block g (Array.getElem?_eq_some_iff.1 h1).1).trans h1,h2⟩
theorem RowA.cell {g m j:Nat} {T:TypeId} (h:RowA w g m T) (hj:j<m):(∃ u,w.cell? ⟨g,j,none⟩=some u)∧w.frozen? ⟨g,j,none⟩=false:=by
 obtain ⟨cs,h1,h2⟩:=h
 exact ⟨⟨cs[j]'(by omega),by rw [cell_of_row w g j cs T (0,0) h1]; exact Array.getElem?_eq_getElem _⟩,frozen_of_row w g j cs T h1⟩
theorem RowA.set {g m j:Nat} {T:TypeId} {g':Nat} (h:RowA w g m T) (hg:RowA w g' 0 T) (v:Value):RowA (w.setCell ⟨g',j,none⟩ v) g m T:=by
 obtain ⟨cs,h1,h2⟩:=h
 obtain ⟨cs',h1',_⟩:=hg
 by_cases e:g=g'
 ·subst e
  exact ⟨_,heap_setCell_same w g j cs T v h1,by simpa using h2⟩
 ·exact ⟨cs,(heap_setCell_other w ⟨g',j,none⟩ g v e).trans h1,h2⟩
theorem Mk.setR (h:Mk TO D w a) {g m j:Nat} {T:TypeId} (hg:RowA a g m T) (hBg:D g) (hT:¬ TO T j) (v:Value):Mk TO D w (a.setCell ⟨g,j,none⟩ v):=by
 obtain ⟨cs,h1,_⟩:=hg
 exact h.set h1 hBg hT v
theorem RowA.keep {g m j:Nat} {T:TypeId} (h:RowA w g m T) (v:Value):RowA (w.setCell ⟨g,j,none⟩ v) g m T:=h.set (by obtain ⟨cs,h1,_⟩:=h; exact ⟨cs,h1,Nat.zero_le _⟩) v
end
def digs:Nat→Nat→ByteArray→ByteArray
 | 0,_,s=>s
 | f+1,m,s=>if 0<m then digs f (m / 10) (strOfNums [48+(m:Int) % 10]++s) else s
def Zrk (k:Int):ByteArray:=⟨#[109]⟩++digs k.toNat k.toNat ⟨#[]⟩
def Zfu (k:Int):Option ByteArray:=if 1≤k∧k≤1099511627776 then some (Zrk k) else none
theorem Zkd (k:Int) (w:World) (h0:1≤k) (h1:k≤1099511627776):Calls Tryz.prog 35 #[.int .i64 k] w fun e w'=>e=.returned (.string (Zrk k))∧Up w w':=by
 go_enter Tryz.func35,Tryz.ntmps35
 have hk:¬ k≤0:=by omega
 go_wp2
 go_loopw [3,0] (fun out kk wr=>∃ (m f:Nat) (s:ByteArray),kk=.int .i64 m∧out=.string s∧s.size+m≤1099511627777∧m≤f∧digs f m s=digs k.toNat k.toNat ⟨#[]⟩∧Up w wr) (fun _ kk _=>(intOf kk).toNat)
 case atStart=>exact ⟨k.toNat,k.toNat,⟨#[]⟩,by congr 1; omega,rfl,by show (0:Nat)+k.toNat≤_; omega,Nat.le_refl _,rfl,by (repeat (first | exact Up.rfl' _ | (refine Up.al _ ?_) | (refine Up.dr _ ?_) | (refine Up.dr1 ?_) | (refine Up.sc ?_ (by first | exact Nat.le_refl _ | (simp; done) | omega) _) | (refine Up.step (by assumption) ?_)))⟩
 case round=>
  obtain ⟨m,f,s,rfl,rfl,hm,hmf,hd,hb⟩:=hrel
  by_cases hlt:0<m
  ·obtain ⟨f,rfl⟩:∃ f',f=f'+1:=⟨f-1,by omega⟩
   have hd':digs f (m / 10) (strOfNums [48+(m:Int) % 10]++s)=digs k.toNat k.toNat ⟨#[]⟩:=by rw [← hd]; simp only [digs,hlt,if_true]
   have hcv:=run_convert_bytes_arg (P:=Tryz.prog) (wr.alloc (.cells #[.int .u8 (48+(m:Int) % 10)] 5)) 40 5 Tryz.underlying40 Tryz.underlying5 wr.heap.size 0 1 1 [48+(m:Int) % 10] rfl (fun i hi=>(by obtain rfl:i=0:=(by omega); simp [go_sem])) 9 Tryz.underlying9
   have hsz:(strOfNums [48+(m:Int) % 10]).size=1:=by simp [strOfNums,ByteArray.size]
   go_wp2
   exact ⟨⟨m / 10,f,_,by congr 1,rfl,by rw [ByteArray.size_append,hsz]; omega,by omega,hd',by (repeat (first | exact Up.rfl' _ | (refine Up.al _ ?_) | (refine Up.dr _ ?_) | (refine Up.dr1 ?_) | (refine Up.sc ?_ (by first | exact Nat.le_refl _ | (simp; done) | omega) _) | (refine Up.step (by assumption) ?_)))⟩,by simp [intOf]; omega⟩
  ·obtain rfl:m=0:=by omega
   go_wp2
   go_ret
   have hd':s=digs k.toNat k.toNat ⟨#[]⟩:=by rw [← hd]; cases f <;> simp [digs]
   exact ⟨by rw [hd']; rfl,hb⟩
theorem ZwU {w:World} {E:Env} {x y:Value} (h:Rep w E (.v x) y):y=x:=by
 cases h with
 | c h=>cases h with
  | v _ _=>rfl
theorem ZiJ (k:Int) {r:ByteArray} (H:Zfu k=some r):Zd1 Tryz.prog 35 [vi k] [] (vs r) []:=by
 unfold Zfu at H
 split at H
 case isFalse=>cases H
 rename_i hok
 obtain rfl:=Option.some.inj H
 intro S β w vs ω hk hl ha
 obtain ⟨x,hx0,hr⟩:=ha 0 _ rfl
 have hv:vs=#[x]:=by
  have h1:vs.size=1:=hl
  apply Array.ext (by simp [h1])
  intro i h2 h3
  have:i=0:=by omega
  subst this
  have:=(Array.getElem?_eq_some_iff.1 hx0).2
  simpa using this
 subst hv
 obtain rfl:=ZwU hr
 refine (Zkd k w hok.1 hok.2).mono ?_
 rintro e w' ⟨rfl,hu⟩
 have hnone:∀ l B,β l=some B→False:=fun l B hB=>by
  obtain ⟨mb,hmb⟩:=hk.dom l B hB
  simp at hmb
 exact ⟨_,E1 S β 0,rfl,⟨⟨hu.os,hu.tape,hu.output,hu.size,fun b hb _=>hu.block b hb⟩,fun b hb=>Nat.lt_of_lt_of_le (hk.sz b hb) hu.size,fun l B hB=>(hnone l B hB).elim,fun l l' B B' hB=>(hnone l B hB).elim,fun l hl=>hk.used l hl,fun l B hB=>(hnone l B hB).elim,fun l mb h=>(by simp at h),fun l B hB=>(hnone l B hB).elim,hk.tab,fun _ _ h=>h.elim⟩,fun b h=>h,fun b h=>.inl h,⟨fun l B hl=>absurd hl (Nat.not_lt_zero l),fun _ _ h=>h.elim⟩,.c (.v _ rfl)⟩
instance (k:Int):CT Tryz.prog (Zfu k):=⟨35,[vi k],[],fun r=>vs r,fun r=>[],ZiJ k⟩
end Go.Proofs.YtkfbakhnpfmfmaaGreatDoor
