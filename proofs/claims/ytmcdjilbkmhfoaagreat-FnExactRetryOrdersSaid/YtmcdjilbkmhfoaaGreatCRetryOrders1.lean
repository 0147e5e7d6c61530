/- A part of the proof of the statement in the last file of this claim: texts on the language of the program and on its functions. No condition. -/
import Derived.WalkKit
import Derived.WalkSpells
import Derived.WalkLawsBesides
import Derived.Below
import Derived.Lib.Hide
import Derived.Outline
import Derived.Laws.OwnMore
import Derived.Maps.AppendAt
import Derived.Deep.Draws
import Derived.Deep.QuietTactic
import Derived.BigQuiet
import Derived.Laws.StructEq
import Derived.Deep.DeepCutAuto
import Derived.StillTailTactics
set_option linter.unusedVariables false
set_option linter.unusedSimpArgs false
namespace Go.Proofs.YtmcdjilbkmhfoaaGreat
set_option maxRecDepth 10000
open Go.RowKit
abbrev I (n:Int):Value:=.int .i64 n
class Enc (α:Type) where
 cells:α→List Value
 k:Nat
 len:∀ x,(cells x).length=k
 pos:0<k
 one:∀ x,∀ u∈cells x,u.oneCell'=true
instance:Enc Int where
 cells x:=[I x]
 k:=1
 len _:=rfl
 pos:=by decide
 one:=by simp [Value.oneCell',I]
def flat {α:Type} [Enc α] (xs:List α):List Value:=xs.flatMap Enc.cells
section flat
variable {α:Type} [Enc α]
theorem Zf3 (x:α) (xs:List α):flat (x::xs)=Enc.cells x++flat xs:=rfl
theorem Zku (xs ys:List α):flat (xs++ys)=flat xs++flat ys:=by simp [flat]
theorem ZoL (x:α):flat [x]=Enc.cells x:=by simp [flat]
theorem Zds (xs:List α):(flat xs).length=xs.length*Enc.k α:=by
 induction xs with
 | nil=>simp [flat]
 | cons x xs ih=>rw [Zf3,List.length_append,ih,Enc.len,List.length_cons,Nat.add_mul,Nat.one_mul,Nat.add_comm]
theorem Zjq (xs:List α):∀ u∈flat xs,u.oneCell'=true:=by
 intro u hu
 obtain ⟨x,_,hx⟩:=List.mem_flatMap.1 hu
 exact Enc.one x u hx
theorem Zfa {xs:List α} {i:Nat} {x:α} (hx:xs[i]?=some x) {j:Nat} {u:Value} (hu:(Enc.cells x)[j]?=some u):(flat xs)[i*Enc.k α+j]?=some u:=by
 induction xs generalizing i with
 | nil=>simp at hx
 | cons y ys ih=>
  have hl:=Enc.len (α:=α) y
  cases i with
  | zero=>
   obtain rfl:y=x:=by simpa using hx
   have hj:j<(Enc.cells y).length:=(List.getElem?_eq_some_iff.1 hu).1
   rw [Zf3,Nat.zero_mul,Nat.zero_add,List.getElem?_append_left hj,hu]
  | succ i=>
   have h1:=ih (i:=i) (by simpa using hx)
   rw [Zf3,List.getElem?_append_right (by rw [hl,Nat.succ_mul]; omega),← h1]
   congr 1
   rw [hl,Nat.succ_mul]; omega
end flat
def Rd {α:Type} [Enc α] (w:World) (B:Nat) (A:Option Addr) (xs:List α):Prop:=
 xs≠[]→∃ b off,A=some ⟨b,off,none⟩∧b<B∧∀ j u,(flat xs)[j]?=some u→w.cell? ⟨b,off+j,none⟩=some u
section rd
variable {α:Type} [Enc α] {w w':World} {B B':Nat} {A:Option Addr} {xs:List α}
theorem Rd.nil_:Rd w B A ([]:List α):=fun h=>absurd rfl h
theorem Rd.at_ {i:Nat} {x:α} (h:Rd w B A xs) (hx:xs[i]?=some x):
 ∃ b off,A=some ⟨b,off,none⟩∧b<B∧∀ j u,(Enc.cells x)[j]?=some u→w.cell? ⟨b,off+i*Enc.k α+j,none⟩=some u:=by
 obtain ⟨b,off,e,hb,hc⟩:=h (by rintro rfl; simp at hx)
 exact ⟨b,off,e,hb,fun j u hu=>by rw [Nat.add_assoc]; exact hc _ u (Zfa hx hu)⟩
theorem Rd.keep (h:Rd w B A xs) (hk:∀ b o,b<B→w'.cell? ⟨b,o,none⟩=w.cell? ⟨b,o,none⟩):Rd w' B A xs:=fun hn=>by
 obtain ⟨b,off,e,hb,hc⟩:=h hn
 exact ⟨b,off,e,hb,fun j u hu=>(hk _ _ hb).trans (hc j u hu)⟩
theorem Rd.more (h:Rd w B A xs) (hB:B≤B'):Rd w B' A xs:=fun hn=>by
 obtain ⟨b,off,e,hb,hc⟩:=h hn
 exact ⟨b,off,e,by omega,hc⟩
theorem Rd.below (h:Rd w B A xs) (hb:Below B w w'):Rd w' B A xs:=h.keep fun b o hp=>hb.cell (p:=⟨b,o,none⟩) hp
end rd
def Own {α:Type} [Enc α] (w:World) (B:Nat) (E:TypeId) (v:Value) (xs:List α):Prop:=w.ownsRow B E (Enc.k α) v xs.length (flat xs)
theorem Zoq {α:Type} {xs:List α} {i:Nat} {x:α} (hx:xs[i]?=some x):xs.take (i+1)=xs.take i++[x]:=by
 rw [List.take_add_one,hx]; rfl
theorem Zhr {α:Type} {xs:List α} {i:Nat} (h:i<xs.length):∃ x,xs[i]?=some x:=⟨xs[i],List.getElem?_eq_getElem h⟩
theorem Zmi {α β:Type} {xs:List α} {i:Nat} {x:α} (hx:xs[i]?=some x) (f:β→α→β) (a:β):(xs.take (i+1)).foldl f a=f ((xs.take i).foldl f a) x:=by
 rw [Zoq hx,List.foldl_append]; rfl
theorem Below.next {B:Nat} {a b c:World} (h:Below B a b) (k:Below b.heap.size b c) (hB:B≤b.heap.size):Below B a c:=h.trans (k.mono hB)
abbrev Up (w w':World):Prop:=Below w.heap.size w w'
theorem Up.rfl' (w:World):Up w w:=Below.refl _ _
theorem Up.step {a b c:World} (k:Up b c) (h:Up a b):Up a c:=Below.trans h (Below.mono k h.size)
theorem Up.al {a b:World} (o:Obj) (h:Up a b):Up a (b.alloc o):=Below.alloc h h.size o
theorem Up.sc {a b:World} {p:Addr} (h:Up a b) (hp:a.heap.size≤p.block) (u:Value):Up a (b.setCell p u):=Below.setCell h hp u
theorem Up.dr {a b:World} (n:Nat) (h:Up a b):Up a (b.drewN n):=⟨h.os,h.tape,h.output,h.size,h.block⟩
theorem Up.dr1 {a b:World} (h:Up a b):Up a b.drew:=Below.drew h
theorem Rd.up {α:Type} [Enc α] {w w':World} {A:Option Addr} {xs:List α} (h:Rd w w.heap.size A xs) (hb:Up w w'):Rd w' w'.heap.size A xs:=(h.below hb).more hb.size
theorem Own.rd {α:Type} [Enc α] {w:World} {B E:Nat} {A:Option Addr} {c n:Nat} {xs:List α} (h:Own w B E (.slice A n c) xs):Rd w w.heap.size A xs:=by
 intro hne
 have hpos:0<xs.length:=List.length_pos_iff.2 hne
 rcases h.2 with ⟨_,h0⟩ | ⟨g,cap,cur,hv,hB,hg,hnc,hcm,hcs,ht⟩
 ·omega
 ·have hA:A=some ⟨g,0,none⟩:=by injection hv
  refine ⟨g,0,hA,(Array.getElem?_eq_some_iff.1 hg).1,fun j u hu=>?_⟩
  rw [Nat.zero_add,cell_of_row w g j cur E (0,0) hg]
  rw [← ht,List.getElem?_take] at hu
  split at hu
  ·simpa using hu
  ·cases hu
theorem Own.up {α:Type} [Enc α] {w w':World} {B E:Nat} {v:Value} {xs:List α} (h:Own w B E v xs) (hb:Up w w'):Own w' B E v xs:=by
 refine ⟨h.1,?_⟩
 rcases h.2 with h2 | ⟨g,cap,cur,hv,hB,hg,r⟩
 ·exact .inl h2
 ·exact .inr ⟨g,cap,cur,hv,hB,(hb.block g (Array.getElem?_eq_some_iff.1 hg).1).trans hg,r⟩
theorem reti {a b:Int} (h:a=b):Ending.returned (.int .i64 a)=.returned (.int .i64 b):=by rw [h]
def szTo (l:Int) (n:Nat):Int:=if l<n then -1 else l-n
theorem ZpZ {P:Program} (t e:TypeId) (i:TypeInfo) (z:Value) (ht:P.underlying t=some (.slice e)) (hi:P.info? e=some i) (hz:i.zero=some z)
 (n:Nat) (hbytes:i.bytes*n≤281474976710656) (h63:n≤9223372036854775807) (w:World):
 (Instr.makeSlice t (.int .i64 (n:Int)) (.int .i64 (n:Int))).run P w=.ok (.slice (some ⟨w.heap.size,0,none⟩) n n) (w.alloc (.cells (madeCells z.cells (n*i.size)) e)):=by
 have hb:(i.bytes:Int)*(n:Int)≤281474976710656:=by
  have h:((i.bytes*n:Nat):Int)≤281474976710656:=by omega
  rwa [Int.natCast_mul] at h
 have hr:=run_make (P:=P) w t e i z ht hi hz .i64 .i64 n n (by omega) (by omega) hb (by omega)
 simp only [Int.toNat_natCast] at hr
 exact hr
def Zdg (w:World) (B:Nat) (E:TypeId) (k:Nat) (g n i:Nat) (ys:List Value):Prop:=
 ∃ cs:Array Value,w.heap[g]?=some (.cells cs E (0,0))∧B≤g∧cs.size=n*k∧n≤maxLen∧cs.toList.take (i*k)=ys.take (i*k)
theorem Zdg.start (w:World) (B E k n:Nat) (z:Array Value) (ys:List Value) (hB:B≤w.heap.size) (hn:n≤maxLen):
 Zdg (w.alloc (.cells (madeCells z (n*k)) E)) B E k w.heap.size n 0 ys:=
 ⟨_,heap_alloc_new w _,hB,by simp [madeCells],hn,by simp⟩
theorem Zdg.cell {w:World} {B E k g n i:Nat} {ys:List Value} (h:Zdg w B E k g n i ys) {j:Nat} (hj:j<n*k):∃ u,w.cell? ⟨g,j,none⟩=some u:=by
 obtain ⟨cs,hh,_,hs,_⟩:=h
 exact ⟨cs[j]'(by omega),by rw [cell_of_row w g j cs E (0,0) hh]; exact Array.getElem?_eq_getElem _⟩
theorem Zdg.frozen {w:World} {B E k g n i:Nat} {ys:List Value} (h:Zdg w B E k g n i ys) (j:Nat):w.frozen? ⟨g,j,none⟩=false:=by
 obtain ⟨cs,hh,_⟩:=h
 exact frozen_of_row w g j cs E hh
theorem Zdg.kept {w w':World} {B E k g n i:Nat} {ys:List Value} (h:Zdg w B E k g n i ys) (hb:Below w.heap.size w w'):Zdg w' B E k g n i ys:=by
 obtain ⟨cs,hh,r⟩:=h
 exact ⟨cs,(hb.block g (Array.getElem?_eq_some_iff.1 hh).1).trans hh,r⟩
theorem Zdg.lt {w:World} {B E k g n i:Nat} {ys:List Value} (h:Zdg w B E k g n i ys):B≤g∧g<w.heap.size:=by
 obtain ⟨cs,hh,hB,_⟩:=h
 exact ⟨hB,(Array.getElem?_eq_some_iff.1 hh).1⟩
theorem Zdg.own {α:Type} [Enc α] {w:World} {B E g n:Nat} {ys:List α} (h:Zdg w B E (Enc.k α) g n n (flat ys)) (hn:ys.length=n):
 Own w B E (.slice (some ⟨g,0,none⟩) n n) ys:=by
 obtain ⟨cs,hh,hB,hs,hm,ht⟩:=h
 subst hn
 have e1:(flat ys).take (ys.length*Enc.k α)=flat ys:=List.take_of_length_le (by rw [Zds]; omega)
 exact ⟨Zds ys,.inr ⟨g,_,cs,rfl,hB,hh,Nat.le_refl _,hm,hs,by rw [ht,e1]⟩⟩
theorem Zpi {cs:List Value} {j m:Nat} (v:Value) (h:m≤j):(cs.set j v).take m=cs.take m:=by
 rw [List.take_set_of_le h]
theorem Zgo {cs ys:List Value} {j:Nat} {v:Value} (hj:j<cs.length) (hy:ys[j]?=some v) (h:cs.take j=ys.take j):(cs.set j v).take (j+1)=ys.take (j+1):=by
 rw [List.take_add_one,List.take_add_one,hy,Zpi v (Nat.le_refl _),h]
 simp [hj]
theorem Zdg.set1 {w:World} {B E g n i:Nat} {ys:List Value} {v:Value} (h:Zdg w B E 1 g n i ys) (hi:i<n) (hy:ys[i]?=some v):
 Zdg (w.setCell ⟨g,i,none⟩ v) B E 1 g n (i+1) ys:=by
 obtain ⟨cs,hh,hB,hs,hm,ht⟩:=h
 refine ⟨cs.setIfInBounds i v,heap_setCell_same w g i cs E v hh,hB,by simpa using hs,hm,?_⟩
 rw [Nat.mul_one] at ht
 rw [Nat.mul_one,Array.toList_setIfInBounds]
 exact Zgo (by simp; omega) hy ht
def TabF (_:World):Prop:=True
theorem Zsh (w:World):TabF w:=trivial
def Tab (w:World) (O:Nat→Prop):Prop:=∃ T:Nat→Prop,(∀ b,T b→b<w.heap.size∧¬ O b)∧∀ w':World,(∀ b,T b→w'.heap[b]?=w.heap[b]?)→TabF w'
theorem Tab.of {w:World} {O:Nat→Prop} (h:∀ w:World,TabF w):Tab w O:=⟨fun _=>False,fun _ h=>h.elim,fun w' _=>h w'⟩
theorem tab0 {w:World} {O:Nat→Prop}:Tab w O:=.of Zsh
inductive PV where
 | v (x:Value)
 | ud
 | un
 | sl (es:List (List PV))
 | rp (cs:List PV)
 | ms (l:Nat)
 | ss (l a b:Nat)
 | be (l i o:Nat)
 | ag (cs:List PV)
 | tu (vs:List PV)
 | fn (f:FuncId) (cs:List PV)
instance:Inhabited PV:=⟨.un⟩
structure TK where
 t:TypeId
 kd:Option TypeId
def TK.of (n:TypeId):TK:=⟨n,none⟩
instance:Coe TypeId TK:=⟨TK.of⟩
@[simp] theorem TK.t_n (n:Nat):(TK.of n).t=n:=rfl
@[simp] theorem TK.kd_n (n:Nat):(TK.of n).kd=none:=rfl
def noSl:PV→Bool
 | .sl (_::_)=>false
 | _=>true
def TK.stb (T:TK) (b:Bool):TK:=match T.kd with
 | none=>T
 | some _=>if b=true then T else ⟨T.t,none⟩
def TK.st (T:TK) (qs:List PV):TK:=T.stb (qs.all noSl)
def TK.sts (T:TK) (es:List (List PV)):TK:=T.stb (es.all fun qs=>qs.all noSl)
@[simp] theorem TK.st_n (n:Nat) (qs:List PV):(TK.of n).st qs=TK.of n:=rfl
@[simp] theorem TK.sts_n (n:Nat) (es:List (List PV)):(TK.of n).sts es=TK.of n:=rfl
theorem TK.stb_t (T:TK) (b:Bool):(T.stb b).t=T.t:=by
 unfold TK.stb
 split
 ·rfl
 ·split <;> rfl
theorem TK.st_t (T:TK) (qs:List PV):(T.st qs).t=T.t:=T.stb_t _
theorem TK.sts_t (T:TK) (es:List (List PV)):(T.sts es).t=T.t:=T.stb_t _
theorem TK.stb_kd {T:TK} {b:Bool} {T':TypeId} (h:(T.stb b).kd=some T'):T.kd=some T'∧b=true:=by
 unfold TK.stb at h
 split at h
 ·rename_i e; rw [e] at h; cases h
 ·split at h
  ·exact ⟨h,by assumption⟩
  ·cases h
theorem ZkG {qs:List PV} (h:qs.all noSl=true) {j:Nat} {es:List (List PV)} (hj:qs[j]?=some (.sl es)):es=[]:=by
 have:=List.all_eq_true.1 h _ (List.mem_of_getElem? hj)
 cases es with
 | nil=>rfl
 | cons a l=>cases this
structure MB where
 T:TK
 k:Nat
 es:List (List PV)
abbrev Mem:=List (Option MB)
inductive RepC (w:World) (S:Nat→Prop):PV→Value→Prop
 | v (x:Value) (h:x.oneCell'=true):RepC w S (.v x) x
 | ud:RepC w S .ud undef
 | un (x:Value):RepC w S .un x
 | nil (A:Option Addr) (c:Nat):RepC w S (.sl []) (.slice A 0 c)
 | sl (es:List (List PV)) (b off k c:Nat) (u:Nat→Nat→Value) (hS:S b) (hk:0<k) (hn:es.length≤c) (hm:c≤maxLen)
  (hes:∀ (i:Nat) (cs:List PV),es[i]?=some cs→cs.length=k)
  (hc:∀ (i:Nat) (cs:List PV) (j:Nat) (p:PV),es[i]?=some cs→cs[j]?=some p→w.cell? ⟨b,off+i*k+j,none⟩=some (u i j))
  (h1:∀ (i:Nat) (cs:List PV) (j:Nat) (p:PV),es[i]?=some cs→cs[j]?=some p→(u i j).oneCell'=true)
  (hr:∀ (i:Nat) (cs:List PV) (j:Nat) (p:PV),es[i]?=some cs→cs[j]?=some p→RepC w S p (u i j)):RepC w S (.sl es) (.slice (some ⟨b,off,none⟩) es.length c)
 | rp (cs:List PV) (b off:Nat) (u:Nat→Value) (hS:S b)
  (hc:∀ (j:Nat) (p:PV),cs[j]?=some p→w.cell? ⟨b,off+j,none⟩=some (u j))
  (h1:∀ (j:Nat) (p:PV),cs[j]?=some p→(u j).oneCell'=true)
  (hr:∀ (j:Nat) (p:PV),cs[j]?=some p→RepC w S p (u j)):RepC w S (.rp cs) (.pointer (some ⟨b,off,none⟩))
 | fn (f:FuncId) (cs:List PV) (vs:Array Value) (hl:vs.size=cs.length)
  (hr:∀ (j:Nat) (p:PV) (x:Value),cs[j]?=some p→vs[j]?=some x→RepC w S p x):RepC w S (.fn f cs) (.func (.func f) #[] vs)
structure Blk where
 b:Nat
 c:Nat
 n:Nat
 k:Nat
 T:TypeId
 z:Bool
def Blk.sv (B:Blk):Value:=if B.z then .slice none 0 0 else .slice (some ⟨B.b,0,none⟩) B.n B.c
abbrev Key:=Nat × Nat × Nat
structure Env where
 S:Nat→Prop
 β:Nat→Option Blk
 used:Nat→Prop
 ω:Nat→Key→Prop
inductive Rep (w:World) (E:Env):PV→Value→Prop
 | c {p:PV} {x:Value} (h:RepC w E.S p x):Rep w E p x
 | ms (l:Nat) (x:Value) (hl:E.used l) (h1:x.oneCell'=true) (h:∀ B,E.β l=some B→x=B.sv):Rep w E (.ms l) x
 | ss (l a b:Nat) (x:Value) (hl:E.used l) (h1:x.oneCell'=true) (h:∀ B,E.β l=some B→∃ A c,x=.slice A (b-a) c∧a≤b∧b≤B.n∧(a<b→B.z=false∧A=some ⟨B.b,a*B.k,none⟩∧b-a≤c∧c≤maxLen)):Rep w E (.ss l a b) x
 | be (l i o:Nat) (x:Value) (hl:E.used l) (h1:x.oneCell'=true) (h:∀ B,E.β l=some B→B.z=false∧x=.pointer (some ⟨B.b,i*B.k+o,none⟩)):Rep w E (.be l i o) x
 | ag (cs:List PV) (vs:Array Value) (hl:vs.size=cs.length) (h1:∀ (j:Nat) (x:Value),vs[j]?=some x→x.oneCell'=true)
  (hr:∀ (j:Nat) (p:PV) (x:Value),cs[j]?=some p→vs[j]?=some x→Rep w E p x):Rep w E (.ag cs) (.agg vs)
 | tu (ps:List PV) (vs:Array Value) (hl:vs.size=ps.length)
  (hr:∀ (j:Nat) (p:PV) (x:Value),ps[j]?=some p→vs[j]?=some x→Rep w E p x):Rep w E (.tu ps) (.tuple vs)
 | fn (f:FuncId) (cs:List PV) (vs:Array Value) (hl:vs.size=cs.length)
  (hr:∀ (j:Nat) (p:PV) (x:Value),cs[j]?=some p→vs[j]?=some x→Rep w E p x):Rep w E (.fn f cs) (.func (.func f) #[] vs)
def own0 (β:Nat→Option Blk) (b:Nat):Prop:=∃ l B,β l=some B∧B.z=false∧B.b=b
structure Ext (w w':World) (E E':Env):Prop where
 S:∀ b,E.S b→E'.S b
 cell:∀ b o,E.S b→w'.cell? ⟨b,o,none⟩=w.cell? ⟨b,o,none⟩
 β:∀ l B,E.used l→E'.β l=some B→E.β l=some B
 used:∀ l,E.used l→E'.used l
 S':∀ b,E'.S b→E.S b∨w.heap.size≤b∨own0 E.β b
 own:∀ b,own0 E'.β b→own0 E.β b∨w.heap.size≤b
 size:w.heap.size≤w'.heap.size
 ω:∀ b k,E.ω b k→E'.ω b k∧w'.heap[b]?=w.heap[b]?
 ω':∀ b k,E'.ω b k→E.ω b k∨w.heap.size≤b∨own0 E.β b
theorem Ext.refl (w:World) (E:Env):Ext w w E E:=⟨fun _ h=>h,fun _ _ _=>rfl,fun _ _ _ h=>h,fun _ h=>h,fun _ h=>.inl h,fun _ h=>.inl h,Nat.le_refl _,fun _ _ h=>⟨h,rfl⟩,fun _ _ h=>.inl h⟩
theorem Ext.trans {w w1 w2:World} {E E1 E2:Env} (h:Ext w w1 E E1) (k:Ext w1 w2 E1 E2):Ext w w2 E E2:=
 ⟨fun b hb=>k.S b (h.S b hb),fun b o hb=>(k.cell b o (h.S b hb)).trans (h.cell b o hb),fun l B hl hB=>h.β l B hl (k.β l B (h.used l hl) hB),fun l hl=>k.used l (h.used l hl),
  fun b hb=>by
   rcases k.S' b hb with h1 | h1 | h1
   ·exact h.S' b h1
   ·exact .inr (.inl (Nat.le_trans h.size h1))
   ·rcases h.own b h1 with h2 | h2
    ·exact .inr (.inr h2)
    ·exact .inr (.inl h2),fun b hb=>by
   rcases k.own b hb with h1 | h1
   ·exact h.own b h1
   ·exact .inr (Nat.le_trans h.size h1),Nat.le_trans h.size k.size,fun b q hq=>⟨(k.ω b q (h.ω b q hq).1).1,(k.ω b q (h.ω b q hq).1).2.trans (h.ω b q hq).2⟩,fun b q hq=>by
   rcases k.ω' b q hq with h1 | h1 | h1
   ·exact h.ω' b q h1
   ·exact .inr (.inl (Nat.le_trans h.size h1))
   ·rcases h.own b h1 with h2 | h2
    ·exact .inr (.inr h2)
    ·exact .inr (.inl h2)⟩
theorem RepC.ext {w w':World} {S S':Nat→Prop} (hS:∀ b,S b→S' b) (hc:∀ b o,S b→w'.cell? ⟨b,o,none⟩=w.cell? ⟨b,o,none⟩) {p:PV} {x:Value} (h:RepC w S p x):RepC w' S' p x:=by
 induction h with
 | v x h=>exact .v x h
 | ud=>exact .ud
 | un x=>exact .un x
 | nil A c=>exact .nil A c
 | sl es b off k c u hSb hk hn hm hes hcc h1 hr ih=>
  exact .sl es b off k c u (hS b hSb) hk hn hm hes (fun i cs j p h h'=>(hc _ _ hSb).trans (hcc i cs j p h h')) h1 ih
 | rp cs b off u hSb hcc h1 hr ih=>
  exact .rp cs b off u (hS b hSb) (fun j p h=>(hc _ _ hSb).trans (hcc j p h)) h1 ih
 | fn f cs vs hl hr ih=>exact .fn f cs vs hl ih
theorem Rep.ext {w w':World} {E E':Env} (hx:Ext w w' E E') {p:PV} {x:Value} (h:Rep w E p x):Rep w' E' p x:=by
 induction h with
 | c h=>exact .c (h.ext hx.S hx.cell)
 | ms l x hl h1 h=>exact .ms l x (hx.used l hl) h1 fun B hB=>h B (hx.β l B hl hB)
 | ss l a b x hl h1 h=>exact .ss l a b x (hx.used l hl) h1 fun B hB=>h B (hx.β l B hl hB)
 | be l i o x hl h1 h=>exact .be l i o x (hx.used l hl) h1 fun B hB=>h B (hx.β l B hl hB)
 | ag cs vs hl h1 hr ih=>exact .ag cs vs hl h1 ih
 | tu ps vs hl hr ih=>exact .tu ps vs hl ih
 | fn f cs vs hl hr ih=>exact .fn f cs vs hl ih
def Zma (w:World) (E:Env) (T:TypeId) (q:Key) (es:List (List PV)) (x:Value):Prop:=
 ∃ b c k cs,x=.slice (some ⟨b,0,none⟩) es.length c∧E.ω b q∧w.heap[b]?=some (.cells cs T (0,0))∧cs.size=c*k∧0<k∧es.length≤c∧c≤maxLen∧∀ e∈es,e.length=k
theorem Zma.ext {w w':World} {E E':Env} {T:TypeId} {q:Key} {es:List (List PV)} {x:Value} (h:Zma w E T q es x) (hx:Ext w w' E E'):Zma w' E' T q es x:=by
 obtain ⟨b,c,k,cs,h1,h2,h3,h4⟩:=h
 exact ⟨b,c,k,cs,h1,(hx.ω b q h2).1,(hx.ω b q h2).2.trans h3,h4⟩
theorem Rep.same {w:World} {E E':Env} (hS:∀ b,E.S b→E'.S b) (hβ:∀ l B,E.used l→E'.β l=some B→E.β l=some B) (hu:∀ l,E.used l→E'.used l) {p:PV} {x:Value} (h:Rep w E p x):Rep w E' p x:=by
 induction h with
 | c h=>exact .c (h.ext hS fun _ _ _=>rfl)
 | ms l x hl h1 h=>exact .ms l x (hu l hl) h1 fun B hB=>h B (hβ l B hl hB)
 | ss l a b x hl h1 h=>exact .ss l a b x (hu l hl) h1 fun B hB=>h B (hβ l B hl hB)
 | be l i o x hl h1 h=>exact .be l i o x (hu l hl) h1 fun B hB=>h B (hβ l B hl hB)
 | ag cs vs hl h1 hr ih=>exact .ag cs vs hl h1 ih
 | tu cs vs hl hr ih=>exact .tu cs vs hl ih
 | fn f cs vs hl hr ih=>exact .fn f cs vs hl ih
structure Zaz (w:World) (E:Env) (mb:MB) (B:Blk):Prop where
 k:B.k=mb.k
 n:B.n=mb.es.length
 T:B.T=mb.T.t
 pos:0<B.k
 nc:B.n≤B.c
 cm:B.c≤maxLen
 es:∀ (i:Nat) (cs:List PV),mb.es[i]?=some cs→cs.length=B.k
 nil:B.z=true→mb.es=[]
 mem:B.z=false→∃ cells:Array Value,w.heap[B.b]?=some (.cells cells B.T (0,0))∧cells.size=B.c*B.k∧
  ∀ (i:Nat) (cs:List PV) (j:Nat) (p:PV),mb.es[i]?=some cs→cs[j]?=some p→∃ x,cells[i*B.k+j]?=some x∧x.oneCell'=true∧Rep w E p x
 key:∀ T,mb.T.kd=some T→B.z=false→∀ (i:Nat) (cs:List PV) (j:Nat) (es:List (List PV)) (x:Value),mb.es[i]?=some cs→cs[j]?=some (.sl es)→es≠[]→w.cell? ⟨B.b,i*B.k+j,none⟩=some x→Zma w E T (mb.T.t,i,j) es x
theorem Zaz.retype {w:World} {E:Env} {T T':TK} {k:Nat} {es:List (List PV)} {B:Blk} (h:Zaz w E ⟨T,k,es⟩ B) (ht:T'.t=T.t) (hq:∀ T1,T'.kd=some T1→∀ cs∈es,cs.all noSl=true):Zaz w E ⟨T',k,es⟩ B:=
 ⟨h.k,h.n,h.T.trans ht.symm,h.pos,h.nc,h.cm,h.es,h.nil,h.mem,fun T1 hT _ i cs j es' x hi hj hne _=>absurd (ZkG (hq T1 hT cs (List.mem_of_getElem? hi)) hj) hne⟩
theorem ZkY {T:TK} {es:List (List PV)} {T1:TypeId} (h:(T.sts es).kd=some T1):T.kd=some T1∧∀ cs∈es,cs.all noSl=true:=by
 obtain ⟨h1,h2⟩:=TK.stb_kd h
 exact ⟨h1,fun cs hcs=>List.all_eq_true.1 h2 cs hcs⟩
theorem Zaz.full {w:World} {E:Env} {mb:MB} {B:Blk} (h:Zaz w E mb B) {i:Nat} {cs:List PV} (hi:mb.es[i]?=some cs):B.z=false:=by
 cases hz:B.z with
 | false=>rfl
 | true=>rw [h.nil hz] at hi; cases hi
theorem Zaz.full' {w:World} {E:Env} {mb:MB} {B:Blk} (h:Zaz w E mb B) (hi:0<mb.es.length):B.z=false:=by
 cases hz:B.z with
 | false=>rfl
 | true=>rw [h.nil hz] at hi; cases hi
structure UpO (O:Nat→Prop) (w0 w:World):Prop where
 os:w.os=w0.os
 tape:w.tape=w0.tape
 output:w.output=w0.output
 size:w0.heap.size≤w.heap.size
 block:∀ b,b<w0.heap.size→¬ O b→w.heap[b]?=w0.heap[b]?
theorem UpO.refl (O:Nat→Prop) (w:World):UpO O w w:=⟨rfl,rfl,rfl,Nat.le_refl _,fun _ _ _=>rfl⟩
theorem UpO.trans {O O':Nat→Prop} {a b c:World} (h:UpO O a b) (k:UpO O' b c) (hO:∀ x,x<a.heap.size→O' x→O x):UpO O a c:=
 ⟨k.os.trans h.os,k.tape.trans h.tape,k.output.trans h.output,Nat.le_trans h.size k.size,fun x hx hn=>(k.block x (Nat.lt_of_lt_of_le hx h.size) fun h'=>hn (hO x hx h')).trans (h.block x hx hn)⟩
theorem UpO.none {w w':World} (h:UpO (fun _=>False) w w'):Up w w':=⟨h.os,h.tape,h.output,h.size,fun b hb=>h.block b hb fun h=>h⟩
structure Ok (w0:World) (O:Nat→Prop) (E:Env) (w:World) (m:Mem):Prop where
 up:UpO O w0 w
 sz:∀ b,E.S b→b<w.heap.size
 own:∀ l B,E.β l=some B→B.z=false→(O B.b∨w0.heap.size≤B.b)∧B.b<w.heap.size∧¬ E.S B.b
 inj:∀ l l' B B',E.β l=some B→E.β l'=some B'→B.z=false→B'.z=false→B.b=B'.b→l=l'
 used:∀ l,E.used l→l<m.length
 bu:∀ l B,E.β l=some B→E.used l
 mem:∀ l mb,m[l]?=some (some mb)→∃ B,E.β l=some B∧Zaz w E mb B
 dom:∀ l B,E.β l=some B→∃ mb,m[l]?=some (some mb)
 tab:Tab w0 O
 ow:∀ b q,E.ω b q→E.S b∧∀ q',E.ω b q'→q'=q
theorem Ok.tabc {w0:World} {O:Nat→Prop} {E:Env} {w:World} {m:Mem} (h:Ok w0 O E w m) {O':Nat→Prop} (hO:∀ b,O' b→O b∨w0.heap.size≤b):Tab w O':=by
 obtain ⟨T,h1,h2⟩:=h.tab
 refine ⟨T,fun b hb=>⟨Nat.lt_of_lt_of_le (h1 b hb).1 h.up.size,fun ho=>?_⟩,fun w' hw'=>h2 w' fun b hb=>(hw' b hb).trans (h.up.block b (h1 b hb).1 (h1 b hb).2)⟩
 rcases hO b ho with h3 | h3
 ·exact (h1 b hb).2 h3
 ·have:=(h1 b hb).1; omega
theorem Zbt {w w':World} {b o:Nat} (h:w'.heap[b]?=w.heap[b]?):w'.cell? ⟨b,o,none⟩=w.cell? ⟨b,o,none⟩:=by simp [World.cell?,h]
theorem Zaz.ext {w w':World} {E E':Env} {mb:MB} {B:Blk} (h:Zaz w E mb B) (hx:Ext w w' E E') (hh:B.z=false→w'.heap[B.b]?=w.heap[B.b]?):Zaz w' E' mb B:=by
 refine ⟨h.k,h.n,h.T,h.pos,h.nc,h.cm,h.es,h.nil,fun hz=>?_,fun T hT hz i cs j es x hi hj hne hc=>(h.key T hT hz i cs j es x hi hj hne (by rw [← Zbt (hh hz)]; exact hc)).ext hx⟩
 obtain ⟨cells,h1,h2,h3⟩:=h.mem hz
 exact ⟨cells,(hh hz).trans h1,h2,fun i cs j p e e'=>by
  obtain ⟨x,a,b,c⟩:=h3 i cs j p e e'
  exact ⟨x,a,b,c.ext hx⟩⟩
def mput (m:Mem) (ν:Nat) (mb:MB):Mem:=(m++List.replicate (ν+1-m.length) none).set ν (some mb)
theorem ZiR (m:Mem) (ν:Nat) (mb:MB):(mput m ν mb).length=max m.length (ν+1):=by simp [mput]; omega
theorem Zfc (m:Mem) (ν:Nat) (mb:MB):(mput m ν mb)[ν]?=some (some mb):=by
 unfold mput
 rw [List.getElem?_set_self]
 simp; omega
theorem ZhN {m:Mem} {ν l:Nat} {mb mb':MB} (h:l≠ν):(mput m ν mb)[l]?=some (some mb')↔m[l]?=some (some mb'):=by
 unfold mput
 rw [List.getElem?_set_ne (fun e=>h e.symm)]
 rcases Nat.lt_or_ge l m.length with h1 | h1
 ·rw [List.getElem?_append_left h1]
 ·rw [List.getElem?_append_right h1,List.getElem?_eq_none h1,List.getElem?_replicate]
  split <;> simp
def Env.add (E:Env) (ν:Nat) (B:Blk):Env:={ S:=E.S,β:=fun l'=>if l'=ν then some B else E.β l',used:=fun l=>l=ν∨E.used l,ω:=E.ω }
theorem Ok.new {w0 w w':World} {O:Nat→Prop} {E:Env} {m:Mem} (h:Ok w0 O E w m) {ν:Nat} (hν:¬ E.used ν) (mb:MB) (B:Blk)
 (hos:w'.os=w.os) (htape:w'.tape=w.tape) (hout:w'.output=w.output) (hsize:w.heap.size≤w'.heap.size) (hh:∀ b,b<w.heap.size→w'.heap[b]?=w.heap[b]?)
 (hB:B.z=false→w.heap.size≤B.b∧B.b<w'.heap.size) (hb:Ext w w' E (E.add ν B)→Zaz w' (E.add ν B) mb B):
 Ok w0 O (E.add ν B) w' (mput m ν mb)∧Ext w w' E (E.add ν B):=by
 have old:∀ {l:Nat} {B':Blk},(E.add ν B).β l=some B'→l≠ν→E.β l=some B':=fun hB' hl=>by simpa [Env.add,hl] using hB'
 have new:∀ {B':Blk},(E.add ν B).β ν=some B'→B'=B:=fun hB'=>by simpa [Env.add,eq_comm] using hB'
 have hx:Ext w w' E (E.add ν B):=by
  refine ⟨fun _ hb=>hb,fun b o hb=>Zbt (hh b (h.sz b hb)),fun l B' hl hB'=>old hB' (fun e=>hν (e ▸ hl)),fun l hl=>.inr hl,fun _ hb=>.inl hb,?_,hsize,fun b q hq=>⟨hq,hh b (h.sz b (h.ow b q hq).1)⟩,fun _ _ h=>.inl h⟩
  rintro b ⟨l,B',hB',hz,rfl⟩
  by_cases hl:l=ν
  ·subst hl
   obtain rfl:=new hB'
   exact .inr (hB hz).1
  ·exact .inl ⟨l,B',old hB' hl,hz,rfl⟩
 refine ⟨⟨⟨hos.trans h.up.os,htape.trans h.up.tape,hout.trans h.up.output,Nat.le_trans h.up.size hsize,fun k hk hn=>(hh k (by have:=h.up.size; omega)).trans (h.up.block k hk hn)⟩,
  fun b hb=>by have:=h.sz b hb; omega,?_,?_,?_,?_,?_,?_,h.tab,h.ow⟩,hx⟩
 ·intro l B' hB' hz
  by_cases hl:l=ν
  ·subst hl
   obtain rfl:=new hB'
   obtain ⟨b1,b2⟩:=hB hz
   exact ⟨.inr (by have:=h.up.size; omega),b2,fun hS=>by have:=h.sz _ hS; omega⟩
  ·obtain ⟨a,b,d⟩:=h.own l B' (old hB' hl) hz
   exact ⟨a,by omega,d⟩
 ·intro l l' B1 B2 h1 h2 z1 z2 e
  by_cases hl:l=ν <;> by_cases hl':l'=ν
  ·rw [hl,hl']
  ·subst hl
   obtain rfl:=new h1
   have:=(h.own l' B2 (old h2 hl') z2).2.1
   have:=(hB z1).1
   omega
  ·subst hl'
   obtain rfl:=new h2
   have:=(h.own l B1 (old h1 hl) z1).2.1
   have:=(hB z2).1
   omega
  ·exact h.inj l l' B1 B2 (old h1 hl) (old h2 hl') z1 z2 e
 ·intro l hl
  rw [ZiR]
  rcases hl with rfl | hl
  ·omega
  ·have:=h.used l hl; omega
 ·intro l B' hB'
  by_cases hl:l=ν
  ·exact .inl hl
  ·exact .inr (h.bu l B' (old hB' hl))
 ·intro l mb' hm'
  by_cases hl:l=ν
  ·subst hl
   rw [Zfc] at hm'
   obtain rfl:mb=mb':=by simpa using hm'
   exact ⟨B,by simp [Env.add],hb hx⟩
  ·rw [ZhN hl] at hm'
   obtain ⟨B',hB',hb'⟩:=h.mem l mb' hm'
   exact ⟨B',by simpa [Env.add,hl] using hB',hb'.ext hx fun hz=>hh _ (h.own l B' hB' hz).2.1⟩
 ·intro l B' hB'
  by_cases hl:l=ν
  ·subst hl; exact ⟨mb,Zfc _ _ _⟩
  ·obtain ⟨mb',hm'⟩:=h.dom l B' (old hB' hl)
   exact ⟨mb',(ZhN hl).2 hm'⟩
theorem Ok.put {w0 w w':World} {O:Nat→Prop} {E:Env} {m:Mem} (h:Ok w0 O E w m) {l:Nat} {B:Blk} (hB:E.β l=some B) (hz:B.z=false) (mb:MB)
 (hos:w'.os=w.os) (htape:w'.tape=w.tape) (hout:w'.output=w.output) (hsize:w'.heap.size=w.heap.size) (hh:∀ b,b≠B.b→w'.heap[b]?=w.heap[b]?)
 (hb:Ext w w' E E→Zaz w' E mb B):Ok w0 O E w' (m.set l (some mb))∧Ext w w' E E:=by
 obtain ⟨o1,o2,o3⟩:=h.own l B hB hz
 have hx:Ext w w' E E:=⟨fun _ hb=>hb,fun b o hb=>Zbt (hh b (fun e=>o3 (e ▸ hb))),fun _ _ _ h=>h,fun _ h=>h,fun _ hb=>.inl hb,fun _ hb=>.inl hb,by omega,fun b q hq=>⟨hq,hh b (fun e=>o3 (e ▸ (h.ow b q hq).1))⟩,fun _ _ h=>.inl h⟩
 have hll:l<m.length:=h.used l (h.bu l B hB)
 refine ⟨⟨⟨hos.trans h.up.os,htape.trans h.up.tape,hout.trans h.up.output,by rw [hsize]; exact h.up.size,fun k hk hn=>(hh k (fun e=>by
  rcases o1 with o1 | o1
  ·exact hn (e ▸ o1)
  ·omega)).trans (h.up.block k hk hn)⟩,
  fun b hb=>by rw [hsize]; exact h.sz b hb,fun l' B' hB' hz'=>by rw [hsize]; exact h.own l' B' hB' hz',h.inj,fun l' hl'=>by rw [List.length_set]; exact h.used l' hl',h.bu,?_,?_,h.tab,h.ow⟩,hx⟩
 ·intro l' mb' hm'
  by_cases hl:l'=l
  ·subst hl
   rw [List.getElem?_set_self hll] at hm'
   obtain rfl:mb=mb':=by simpa using hm'
   exact ⟨B,hB,hb hx⟩
  ·rw [List.getElem?_set_ne (fun e=>hl e.symm)] at hm'
   obtain ⟨B',hB',hb'⟩:=h.mem l' mb' hm'
   exact ⟨B',hB',hb'.ext hx fun hz'=>hh _ (fun e=>hl (h.inj l' l B' B hB' hB hz' hz e))⟩
 ·intro l' B' hB'
  by_cases hl:l'=l
  ·subst hl; exact ⟨mb,List.getElem?_set_self hll⟩
  ·obtain ⟨mb',hm'⟩:=h.dom l' B' hB'
   exact ⟨mb',by rw [List.getElem?_set_ne (fun e=>hl e.symm)]; exact hm'⟩
def Env.move (E:Env) (l ν:Nat) (B:Blk):Env:={ S:=E.S,β:=fun i=>if i=ν then some B else if i=l then none else E.β i,used:=fun i=>i=ν∨E.used i,ω:=E.ω }
theorem Ok.move {w0 w w':World} {O:Nat→Prop} {E:Env} {m:Mem} (h:Ok w0 O E w m) {ν:Nat} (hν:¬ E.used ν) {l:Nat} {B:Blk} (hB:E.β l=some B) (mb:MB) (B':Blk)
 (hos:w'.os=w.os) (htape:w'.tape=w.tape) (hout:w'.output=w.output) (hsize:w.heap.size≤w'.heap.size) (hh:∀ b,b<w.heap.size→(B.z=false→b≠B.b)→w'.heap[b]?=w.heap[b]?)
 (hB':B'.z=false→(B.z=false∧B'.b=B.b)∨w.heap.size≤B'.b) (hlt:B'.z=false→B'.b<w'.heap.size) (hb:Ext w w' E (E.move l ν B')→Zaz w' (E.move l ν B') mb B'):
 Ok w0 O (E.move l ν B') w' (mput (m.set l none) ν mb)∧Ext w w' E (E.move l ν B'):=by
 have hlu:=h.bu l B hB
 have hll:l<m.length:=h.used l hlu
 have hne:l≠ν:=fun e=>hν (e ▸ hlu)
 have old:∀ {i:Nat} {B1:Blk},(E.move l ν B').β i=some B1→i≠ν→i≠l∧E.β i=some B1:=by
  intro i B1 hB1 hi
  simp only [Env.move,hi,if_false] at hB1
  split at hB1
  ·cases hB1
  ·exact ⟨by assumption,hB1⟩
 have new:∀ {B1:Blk},(E.move l ν B').β ν=some B1→B1=B':=fun hB1=>by simpa [Env.move,eq_comm] using hB1
 have hsame:∀ b,E.S b→w'.heap[b]?=w.heap[b]?:=fun b hb=>hh b (h.sz b hb) (fun hz e=>(h.own l B hB hz).2.2 (e ▸ hb))
 have hx:Ext w w' E (E.move l ν B'):=
  ⟨fun _ hb=>hb,fun b o hb=>Zbt (hsame b hb),fun i B1 hi hB1=>(old hB1 (fun e=>hν (e ▸ hi))).2,fun _ hl=>.inr hl,fun _ hb=>.inl hb,fun b ho=>by
   obtain ⟨i,B1,hB1,hz,rfl⟩:=ho
   by_cases hi:i=ν
   ·subst hi
    obtain rfl:=new hB1
    rcases hB' hz with ⟨e1,e'⟩ | e'
    ·exact .inl ⟨l,B,hB,e1,e'.symm⟩
    ·exact .inr e'
   ·exact .inl ⟨i,B1,(old hB1 hi).2,hz,rfl⟩,hsize,fun b q hq=>⟨hq,hsame b (h.ow b q hq).1⟩,fun _ _ h=>.inl h⟩
 have apart:∀ i B1,E.β i=some B1→i≠l→B1.z=false→B'.z=false→B1.b≠B'.b:=by
  intro i B1 hB1 hi hz hz' e
  rcases hB' hz' with ⟨e1,e'⟩ | e'
  ·exact hi (h.inj i l B1 B hB1 hB hz e1 (e.trans e'))
  ·have:=(h.own i B1 hB1 hz).2.1; omega
 refine ⟨⟨⟨hos.trans h.up.os,htape.trans h.up.tape,hout.trans h.up.output,Nat.le_trans h.up.size hsize,fun k hk hn=>(hh k (by have:=h.up.size; omega) (fun hz e=>by
  rcases (h.own l B hB hz).1 with o1 | o1
  ·exact hn (e ▸ o1)
  ·omega)).trans (h.up.block k hk hn)⟩,
  fun b hb=>by have:=h.sz b hb; omega,?_,?_,?_,?_,?_,?_,h.tab,h.ow⟩,hx⟩
 ·intro i B1 hB1 hz
  by_cases hi:i=ν
  ·subst hi
   obtain rfl:=new hB1
   refine ⟨?_,hlt hz,?_⟩
   ·rcases hB' hz with ⟨e1,e'⟩ | e'
    ·rw [e']; exact (h.own l B hB e1).1
    ·exact .inr (by have:=h.up.size; omega)
   ·intro hS
    rcases hB' hz with ⟨e1,e'⟩ | e'
    ·rw [e'] at hS; exact (h.own l B hB e1).2.2 hS
    ·have:=h.sz _ hS; omega
  ·obtain ⟨_,h2⟩:=old hB1 hi
   obtain ⟨a,b,d⟩:=h.own i B1 h2 hz
   exact ⟨a,by omega,d⟩
 ·intro i i' B1 B2 h1 h2 z1 z2 e
  by_cases hi:i=ν <;> by_cases hi':i'=ν
  ·rw [hi,hi']
  ·subst hi
   obtain rfl:=new h1
   obtain ⟨h3,h4⟩:=old h2 hi'
   exact absurd e.symm (apart i' B2 h4 h3 z2 z1)
  ·subst hi'
   obtain rfl:=new h2
   obtain ⟨h3,h4⟩:=old h1 hi
   exact absurd e (apart i B1 h4 h3 z1 z2)
  ·exact h.inj i i' B1 B2 (old h1 hi).2 (old h2 hi').2 z1 z2 e
 ·intro i hi
  rw [ZiR,List.length_set]
  rcases hi with rfl | hi
  ·omega
  ·have:=h.used i hi; omega
 ·intro i B1 hB1
  by_cases hi:i=ν
  ·exact .inl hi
  ·exact .inr (h.bu i B1 (old hB1 hi).2)
 ·intro i mb' hm'
  by_cases hi:i=ν
  ·subst hi
   rw [Zfc] at hm'
   have e:mb=mb':=by simpa using hm'
   subst e
   exact ⟨B',by simp [Env.move],hb hx⟩
  ·rw [ZhN hi] at hm'
   have hil:i≠l:=by
    rintro rfl
    rw [List.getElem?_set_self hll] at hm'
    simp at hm'
   rw [List.getElem?_set_ne (fun e=>hil e.symm)] at hm'
   obtain ⟨B1,hB1,hb1⟩:=h.mem i mb' hm'
   refine ⟨B1,by simp [Env.move,hi,hil,hB1],hb1.ext hx fun hz=>hh _ (h.own i B1 hB1 hz).2.1 (fun hz' e=>hil (h.inj i l B1 B hB1 hB hz hz' e))⟩
 ·intro i B1 hB1
  by_cases hi:i=ν
  ·subst hi; exact ⟨mb,Zfc _ _ _⟩
  ·obtain ⟨h3,h4⟩:=old hB1 hi
   obtain ⟨mb',hm'⟩:=h.dom i B1 h4
   refine ⟨mb',(ZhN hi).2 ?_⟩
   rw [List.getElem?_set_ne (fun e=>h3 e.symm)]
   exact hm'
theorem Ok.drew {w0 w:World} {O:Nat→Prop} {E:Env} {m:Mem} (h:Ok w0 O E w m) (n:Nat):Ok w0 O E (w.drewN n) m∧Ext w (w.drewN n) E E:=by
 have hx:Ext w (w.drewN n) E E:=⟨fun _ h=>h,fun _ _ _=>rfl,fun _ _ _ h=>h,fun _ h=>h,fun _ h=>.inl h,fun _ h=>.inl h,Nat.le_refl _,fun _ _ h=>⟨h,rfl⟩,fun _ _ h=>.inl h⟩
 exact ⟨⟨⟨h.up.os,h.up.tape,h.up.output,h.up.size,h.up.block⟩,h.sz,h.own,h.inj,h.used,h.bu,fun l mb hm=>by obtain ⟨B,hB,hb⟩:=h.mem l mb hm; exact ⟨B,hB,hb.ext hx fun _=>rfl⟩,h.dom,h.tab,h.ow⟩,hx⟩
def Zpz (cs:Array Value):Bool:=cs.toList.all (·.oneCell')
def pcst:Value→PV
 | .agg cs=>if Zpz cs then .ag (cs.toList.map .v) else .un
 | .tuple _=>.un
 | x=>.v x
def evP (t:List PV):Operand→PV
 | .tmp i=>t.getD i .un
 | .const x=>pcst x
 | .func f=>.v (.func (.func f) #[] #[])
 | .global _=>.un
def RepT (w:World) (E:Env) (t:List PV) (tm:Array Value):Prop:=tm.size=t.length∧∀ i p,t[i]?=some p→Rep w E p (tm.getD i undef)
section
variable {w:World} {O:Nat→Prop} {E:Env} {w0:World} {m:Mem}
theorem Rep.un' (x:Value):Rep w E .un x:=.c (.un x)
theorem Rep.v_inv {a x:Value} (h:Rep w E (.v a) x):x=a∧a.oneCell'=true:=by
 cases h with
 | c h=>cases h with | v _ h=>exact ⟨rfl,h⟩
theorem Rep.sl_inv {es:List (List PV)} {x:Value} (h:Rep w E (.sl es) x):RepC w E.S (.sl es) x:=by cases h with | c h=>exact h
theorem Rep.rp_inv {cs:List PV} {x:Value} (h:Rep w E (.rp cs) x):RepC w E.S (.rp cs) x:=by cases h with | c h=>exact h
theorem Rep.ag_inv {cs:List PV} {x:Value} (h:Rep w E (.ag cs) x):∃ vs:Array Value,x=.agg vs∧vs.size=cs.length∧(∀ (j:Nat) (x:Value),vs[j]?=some x→x.oneCell'=true)∧∀ (j:Nat) (p:PV) (x:Value),cs[j]?=some p→vs[j]?=some x→Rep w E p x:=by
 cases h with
 | c h=>cases h
 | ag _ vs hl h1 hr=>exact ⟨vs,rfl,hl,h1,hr⟩
theorem Rep.tu_inv {ps:List PV} {x:Value} (h:Rep w E (.tu ps) x):∃ vs:Array Value,x=.tuple vs∧vs.size=ps.length∧∀ (j:Nat) (p:PV) (x:Value),ps[j]?=some p→vs[j]?=some x→Rep w E p x:=by
 cases h with
 | c h=>cases h
 | tu _ vs hl hr=>exact ⟨vs,rfl,hl,hr⟩
theorem Rep.ms_inv (hk:Ok w0 O E w m) {l:Nat} {mb:MB} (hm:m[l]?=some (some mb)) {x:Value} (h:Rep w E (.ms l) x):∃ B,E.β l=some B∧Zaz w E mb B∧x=B.sv:=by
 obtain ⟨B,hB,hb⟩:=hk.mem l mb hm
 cases h with
 | c h=>cases h
 | ms _ _ _ _ h=>exact ⟨B,hB,hb,h B hB⟩
theorem Rep.ss_inv (hk:Ok w0 O E w m) {l a b:Nat} {mb:MB} (hm:m[l]?=some (some mb)) {x:Value} (h:Rep w E (.ss l a b) x):∃ B,E.β l=some B∧Zaz w E mb B∧
 ∃ A c,x=.slice A (b-a) c∧a≤b∧b≤B.n∧(a<b→B.z=false∧A=some ⟨B.b,a*B.k,none⟩∧b-a≤c∧c≤maxLen):=by
 obtain ⟨B,hB,hb⟩:=hk.mem l mb hm
 cases h with
 | c h=>cases h
 | ss _ _ _ _ _ _ h=>exact ⟨B,hB,hb,h B hB⟩
theorem Rep.be_inv (hk:Ok w0 O E w m) {l i o:Nat} {mb:MB} (hm:m[l]?=some (some mb)) {x:Value} (h:Rep w E (.be l i o) x):∃ B,E.β l=some B∧Zaz w E mb B∧B.z=false∧x=.pointer (some ⟨B.b,i*B.k+o,none⟩):=by
 obtain ⟨B,hB,hb⟩:=hk.mem l mb hm
 cases h with
 | c h=>cases h
 | be _ _ _ _ _ _ h=>exact ⟨B,hB,hb,h B hB⟩
theorem Rep.fn_inv {f:FuncId} {cs:List PV} {x:Value} (h:Rep w E (.fn f cs) x):∃ vs:Array Value,x=.func (.func f) #[] vs∧vs.size=cs.length∧∀ (j:Nat) (p:PV) (x:Value),cs[j]?=some p→vs[j]?=some x→Rep w E p x:=by
 cases h with
 | c h=>cases h with
  | fn _ _ vs hl hr=>exact ⟨vs,rfl,hl,fun j p x hp hx=>.c (hr j p x hp hx)⟩
 | fn _ _ vs hl hr=>exact ⟨vs,rfl,hl,hr⟩
theorem Zcs (hk:Ok w0 O E w m) {l:Nat} {mb:MB} (hm:m[l]?=some (some mb)):E.used l:=by
 obtain ⟨B,hB,_⟩:=hk.mem l mb hm
 exact hk.bu l B hB
theorem ZlS (x:Value):Rep w E (pcst x) x:=by
 unfold pcst
 split
 ·rename_i cs
  split
  ·rename_i h
   have hall:∀ v∈cs.toList,v.oneCell'=true:=by simp only [Zpz,List.all_eq_true] at h; exact h
   refine .ag _ _ (by simp) (fun j x hx=>hall x (by simpa using Array.mem_of_getElem? hx)) fun j p x hp hx=>?_
   have e:p=.v x:=by simpa [hx,eq_comm] using hp
   subst e
   exact .c (.v x (hall x (by simpa using Array.mem_of_getElem? hx)))
  ·exact .un' _
 ·exact .un' _
 ·rename_i h1 h2
  refine .c (.v x ?_)
  cases x <;> simp_all [Value.oneCell']
theorem evP_rep {t:List PV} {a:Act} (h:RepT w E t a.tmps) (o:Operand):Rep w E (evP t o) (a.eval o):=by
 cases o with
 | tmp i=>
  simp only [evP,Act.eval]
  rcases Nat.lt_or_ge i t.length with hi | hi
  ·have:=h.2 i _ (List.getElem?_eq_getElem hi)
   simpa [List.getD,List.getElem?_eq_getElem hi] using this
  ·have e:t.getD i .un=.un:=by simp [List.getD,List.getElem?_eq_none hi]
   rw [e]; exact .un' _
 | const x=>exact ZlS x
 | global g=>exact .un' _
 | func f=>exact .c (.v _ rfl)
def pc:PV→Option (List PV)
 | .ag cs=>some cs
 | .v x=>some [.v x]
 | .sl es=>some [.sl es]
 | .rp cs=>some [.rp cs]
 | .ms l=>some [.ms l]
 | .ss l a b=>some [.ss l a b]
 | .be l i o=>some [.be l i o]
 | .fn f cs=>some [.fn f cs]
 | _=>none
theorem ZmX {x:Value} (h:x.oneCell'=true):x.cells=#[x]:=by cases x <;> simp_all [Value.oneCell',Value.cells]
theorem RepC.one {S:Nat→Prop} {p:PV} {x:Value} (h:RepC w S p x) (h1:p≠.ud) (h2:p≠.un):x.oneCell'=true:=by
 cases h <;> first | rfl | assumption | contradiction
theorem ZlR {p:PV} {x:Value} (h:Rep w E p x) {cs:List PV} (hp:pc p=some cs):x.cells.size=cs.length∧∀ (j:Nat) (q:PV),cs[j]?=some q→∃ y,x.cells[j]?=some y∧y.oneCell'=true∧Rep w E q y:=by
 have one:x.oneCell'=true→cs=[p]→x.cells.size=cs.length∧∀ (j:Nat) (q:PV),cs[j]?=some q→∃ y,x.cells[j]?=some y∧y.oneCell'=true∧Rep w E q y:=by
  intro h1 e
  subst e
  rw [ZmX h1]
  refine ⟨rfl,fun j q hq=>?_⟩
  cases j with
  | zero=>obtain rfl:p=q:=by simpa using hq
          exact ⟨x,rfl,h1,h⟩
  | succ j=>simp at hq
 cases h with
 | c h=>
  cases h with
  | v _ h1=>exact one h1 (by simpa [pc,eq_comm] using hp)
  | ud=>simp [pc] at hp
  | un=>simp [pc] at hp
  | nil A c=>exact one rfl (by simpa [pc,eq_comm] using hp)
  | sl=>exact one rfl (by simpa [pc,eq_comm] using hp)
  | rp=>exact one rfl (by simpa [pc,eq_comm] using hp)
  | fn=>exact one rfl (by simpa [pc,eq_comm] using hp)
 | ms l _ hl h1=>exact one h1 (by simpa [pc,eq_comm] using hp)
 | ss l a b _ hl h1=>exact one h1 (by simpa [pc,eq_comm] using hp)
 | fn=>exact one rfl (by simpa [pc,eq_comm] using hp)
 | be l i o _ hl h1=>exact one h1 (by simpa [pc,eq_comm] using hp)
 | ag cs' vs hl h1 hr=>
  obtain rfl:cs'=cs:=by simpa [pc] using hp
  refine ⟨hl,fun j q hq=>?_⟩
  have hj:j<vs.size:=by rw [hl]; exact (List.getElem?_eq_some_iff.1 hq).1
  exact ⟨vs[j],Array.getElem?_eq_getElem hj,h1 j _ (Array.getElem?_eq_getElem hj),hr j q _ hq (Array.getElem?_eq_getElem hj)⟩
 | tu=>simp [pc] at hp
def rdp (m:Mem):PV→Option (List PV)
 | .be l i o=>match m[l]? with
  | some (some mb)=>(mb.es[i]?).map (·.drop o)
  | _=>none
 | .rp cs=>some cs
 | _=>none
theorem rdp_rep (hk:Ok w0 O E w m) {p:PV} {x:Value} (h:Rep w E p x) {cs:List PV} (hp:rdp m p=some cs):
 ∃ b off,x=.pointer (some ⟨b,off,none⟩)∧b<w.heap.size∧∀ (j:Nat) (q:PV),cs[j]?=some q→∃ y,w.cell? ⟨b,off+j,none⟩=some y∧y.oneCell'=true∧Rep w E q y:=by
 cases p with
 | be l i o=>
  simp only [rdp] at hp
  split at hp
  ·rename_i mb hm
   obtain ⟨B,hB,hb,hz,rfl⟩:=h.be_inv hk hm
   obtain ⟨cs',hcs',rfl⟩:=Option.map_eq_some_iff.1 hp
   refine ⟨B.b,_,rfl,(hk.own l B hB hz).2.1,fun j q hq=>?_⟩
   obtain ⟨cells,h1,h2,h3⟩:=hb.mem hz
   rw [List.getElem?_drop] at hq
   obtain ⟨y,a,b,c⟩:=h3 i cs' (o+j) q hcs' hq
   exact ⟨y,by rw [cell_of_row w B.b _ cells B.T (0,0) h1,Nat.add_assoc]; exact a,b,c⟩
  ·cases hp
 | rp cs'=>
  obtain rfl:cs'=cs:=by simpa [rdp] using hp
  cases h.rp_inv with
  | rp _ b off u hS hc h1 hr=>exact ⟨b,off,rfl,hk.sz b hS,fun j q hq=>⟨u j,hc j q hq,h1 j q hq,.c (hr j q hq)⟩⟩
 | _=>simp [rdp] at hp
def aggd:TypeDesc→Bool
 | .struct _ | .array _ _=>true
 | _=>false
theorem ZeQ {P:Program} {t:TypeId} {d:TypeDesc} (h:P.underlying t=some d) (w:World):(isAgg t).run P w=.ok (aggd d) w:=by
 unfold isAgg
 rw [Sem.run_bind,run_underlying h w]
 cases d <;> simp [aggd]
theorem Zkx {P:Program} {t:TypeId} {d:TypeDesc} (h:P.underlying t=some d):∃ i,P.info? t=some i∧i.size=P.cellsOf t∧i.bytes=P.bytesOf t:=by
 unfold Program.underlying at h
 cases hi:P.info? t with
 | none=>simp [hi] at h
 | some i=>exact ⟨i,rfl,by simp [Program.cellsOf,hi],by simp [Program.bytesOf,hi]⟩
theorem ZbY {P:Program} {t:TypeId} (h:0<P.cellsOf t):∃ i,P.info? t=some i∧i.size=P.cellsOf t:=by
 unfold Program.cellsOf at *
 cases hi:P.info? t with
 | none=>simp [hi] at h
 | some i=>exact ⟨i,rfl,by simp⟩
theorem Zbc {P:Program} {t:TypeId} {i:TypeInfo} (h:P.info? t=some i) (w:World):(sizeOf t).run P w=.ok i.size w:=by
 simp [sizeOf,typeInfo,h]
def pLoad (P:Program) (T:TypeId) (cs:Option (List PV)) (K:PV→Prop):Prop:=
 match P.underlying T,cs with
 | some d,some cs=>match aggd d with
  | true=>P.cellsOf T≤cs.length∧K (.ag (cs.take (P.cellsOf T)))
  | false=>match cs with
   | c::_=>K c
   | []=>False
 | _,_=>False
theorem pLoad_mem {P:Program} {T:TypeId} {cs:List PV} {K:PV→Prop} (h:pLoad P T (some cs) K) {b off:Nat} (hb:b<w.heap.size)
 (hc:∀ (j:Nat) (q:PV),cs[j]?=some q→∃ y,w.cell? ⟨b,off+j,none⟩=some y∧y.oneCell'=true∧Rep w E q y):
 ∃ p x,K p∧(∀ w',Up w w'→(loadVar T ⟨b,off,none⟩).run P w'=.ok x w')∧Rep w E p x:=by
 unfold pLoad at h
 split at h
 ·rename_i d cs' hd hcs
  obtain rfl:cs=cs':=by simpa using hcs
  obtain ⟨i,hi,hs,_⟩:=Zkx hd
  split at h
  ·rename_i hag
   obtain ⟨hle,hK⟩:=h
   have hex:∀ j:Fin (P.cellsOf T),∃ y,w.cell? ⟨b,off+j,none⟩=some y∧y.oneCell'=true∧∀ q,cs[j.1]?=some q→Rep w E q y:=by
    intro j
    have hj:j.1<cs.length:=by omega
    obtain ⟨y,h1,h2,h3⟩:=hc j.1 _ (List.getElem?_eq_getElem hj)
    exact ⟨y,h1,h2,fun q hq=>by rw [List.getElem?_eq_getElem hj] at hq; cases hq; exact h3⟩
   obtain ⟨f,hf⟩:=Classical.axiomOfChoice hex
   refine ⟨_,.agg (Array.ofFn f),hK,fun w' hu=>?_,?_⟩
   ·have hl:(loadCells ⟨b,off,none⟩ (List.ofFn f).length).run P w'=.ok (List.ofFn f).toArray w':=run_loadCells_list (P:=P) w' _ (List.ofFn f) fun j v hv=>by
     have hj:j<P.cellsOf T:=by have:=(List.getElem?_eq_some_iff.1 hv).1; simpa using this
     have e:(⟨b,off,none⟩:Addr).add j=⟨b,off+j,none⟩:=by unfold Addr.add; split <;> simp_all
     rw [e,hu.cell (p:=⟨b,off+j,none⟩) hb,(hf ⟨j,hj⟩).1]
     simpa [hj] using hv
    simp only [List.length_ofFn] at hl
    have e2:(List.ofFn f).toArray=Array.ofFn f:=by simp
    rw [e2] at hl
    simp [loadVar,ZeQ hd,hag,Zbc hi,hs,hl]
   ·refine .ag _ _ (by simp; omega) (fun j x hx=>?_) fun j p x hp hx=>?_
    ·have hj:j<P.cellsOf T:=by have:=(Array.getElem?_eq_some_iff.1 hx).1; simpa using this
     have:f ⟨j,hj⟩=x:=by simpa [hj] using hx
     rw [← this]; exact (hf ⟨j,hj⟩).2.1
    ·have hj:j<P.cellsOf T:=by have:=(Array.getElem?_eq_some_iff.1 hx).1; simpa using this
     have:f ⟨j,hj⟩=x:=by simpa [hj] using hx
     rw [← this]
     rw [List.getElem?_take_of_lt hj] at hp
     exact (hf ⟨j,hj⟩).2.2 p hp
  ·rename_i hag
   split at h
   ·rename_i c cs'
    obtain ⟨y,h1,h2,h3⟩:=hc 0 c rfl
    refine ⟨c,y,h,fun w' hu=>?_,h3⟩
    have h1':w'.cell? ⟨b,off,none⟩=some y:=(hu.cell (p:=⟨b,off,none⟩) hb).trans h1
    simp [loadVar,ZeQ hd,hag,h1']
   ·exact h.elim
 ·exact h.elim
theorem Zmt {P:Program} {T:TypeId} {cs:List PV} {K:PV→Prop} {off:Nat} (h:pLoad P T (some (cs.drop off)) K) {vs:Array Value} (hl:vs.size=cs.length)
 (h1:∀ (j:Nat) (x:Value),vs[j]?=some x→x.oneCell'=true) (hr:∀ (j:Nat) (p:PV) (x:Value),cs[j]?=some p→vs[j]?=some x→Rep w E p x):
 ∃ p x,K p∧(∀ w',(part T vs off).run P w'=.ok x w')∧Rep w E p x:=by
 unfold pLoad at h
 split at h
 ·rename_i d cs' hd hcs
  obtain rfl:cs.drop off=cs':=by simpa using hcs
  obtain ⟨i,hi,hs,_⟩:=Zkx hd
  split at h
  ·rename_i hag
   obtain ⟨hle,hK⟩:=h
   rw [List.length_drop] at hle
   refine ⟨_,.agg (vs.extract off (off+P.cellsOf T)),hK,fun w'=>?_,?_⟩
   ·simp [part,ZeQ hd,hag,Zbc hi,hs]
   ·refine .ag _ _ (by simp; omega) (fun j x hx=>?_) fun j p x hp hx=>?_
    ·rw [Array.getElem?_extract] at hx
     split at hx
     ·exact h1 _ _ hx
     ·cases hx
    ·rw [Array.getElem?_extract] at hx
     split at hx
     ·rename_i hj
      rw [List.getElem?_take_of_lt (by omega),List.getElem?_drop] at hp
      exact hr _ p x hp hx
     ·cases hx
  ·rename_i hag
   split at h
   ·rename_i c cs' hcs'
    have hc:cs[off]?=some c:=by
     have:(cs.drop off)[0]?=some c:=by rw [hcs']; rfl
     simpa using this
    have ho:off<vs.size:=by rw [hl]; exact (List.getElem?_eq_some_iff.1 hc).1
    refine ⟨c,vs[off],h,fun w'=>?_,hr off c _ hc (Array.getElem?_eq_getElem ho)⟩
    simp [part,ZeQ hd,hag,Array.getElem?_eq_getElem ho]
   ·exact h.elim
 ·exact h.elim
end
def Zsg (a b:ByteArray):Bool:=decide (a.size+b.size≤9223372036854775807)
def sLt (a b:ByteArray):Bool:=Op.bytesLess a.toList b.toList
def sLe (a b:ByteArray):Bool:=Op.bytesLess a.toList b.toList || a.toList == b.toList
theorem Int.beq_eq_decide' (a b:Int):(a == b)=decide (a=b):=rfl
theorem baL (a b:ByteArray):(a.toList=b.toList)=(a=b):=by
 rw [ByteArray.toList_eq,ByteArray.toList_eq]
 obtain ⟨⟨x⟩⟩:=a
 obtain ⟨⟨y⟩⟩:=b
 simp
theorem baB (a b:ByteArray):(a.toList == b.toList)=decide (a=b):=by
 rw [Bool.eq_iff_iff,beq_iff_eq,baL,decide_eq_true_eq]
def binV (P:Program) (op:BinOp) (T:TypeId):Value→Value→Option Value
 | .int k a,.int k' b=>
  match op with
  | .shl=>if 0≤b then some (.int k (k.wrap (a*2 ^ (min b.toNat k.bits)))) else none
  | .shr=>if 0≤b then some (.int k (a.fdiv (2 ^ (min b.toNat k.bits)))) else none
  | .add=>if k=k' then some (.int k (k.wrap (a+b))) else none
  | .sub=>if k=k' then some (.int k (k.wrap (a-b))) else none
  | .mul=>if k=k' then some (.int k (k.wrap (a*b))) else none
  | .quo=>if k=k'∧b≠0 then some (.int k (k.wrap (a.tdiv b))) else none
  | .rem=>if k=k'∧b≠0 then some (.int k (a.tmod b)) else none
  | .and=>if k=k' then some (.int k (k.wrap (BitVec.ofInt k.bits a &&& BitVec.ofInt k.bits b).toNat)) else none
  | .or=>if k=k' then some (.int k (k.wrap (BitVec.ofInt k.bits a ||| BitVec.ofInt k.bits b).toNat)) else none
  | .xor=>if k=k' then some (.int k (k.wrap (BitVec.ofInt k.bits a ^^^ BitVec.ofInt k.bits b).toNat)) else none
  | .eql=>if k=k' then some (.bool (decide (a=b))) else none
  | .neq=>if k=k' then some (.bool (!decide (a=b))) else none
  | .lss=>if k=k' then some (.bool (decide (a<b))) else none
  | .leq=>if k=k' then some (.bool (decide (a≤b))) else none
  | .gtr=>if k=k' then some (.bool (decide (b<a))) else none
  | .geq=>if k=k' then some (.bool (decide (b≤a))) else none
  | _=>none
 | .string a,.string b=>
  match op with
  | .add=>if Zsg a b=true then some (.string (a++b)) else none
  | .eql=>some (.bool (decide (a=b)))
  | .neq=>some (.bool !decide (a=b))
  | .lss=>some (.bool (sLt a b))
  | .leq=>some (.bool (sLe a b))
  | .gtr=>some (.bool !sLe a b)
  | .geq=>some (.bool !sLt a b)
  | _=>none
 | .bool a,.bool b=>match P.underlying T with
  | some .bool=>match op with
   | .eql=>some (.bool (a == b))
   | .neq=>some (.bool !(a == b))
   | _=>none
  | _=>none
 | _,_=>none
theorem Zle {P:Program} {op:BinOp} {T:TypeId} {x y:Operand} {a b r:Value} (h:binV P op T a b=some r) (w:World):
 ((do eqGuard op T x y a b; binOp op T a b:Sem Value).run P w)=.ok r w∧r.oneCell'=true:=by
 unfold binV at h
 split at h
 ·rename_i k a k' b
  cases op <;> simp only [Option.ite_none_right_eq_some,Option.some.injEq,reduceCtorEq] at h
  all_goals first
   | (obtain ⟨⟨rfl,h0⟩,rfl⟩:=h; simp [eqGuard,binOp,Op.intDiv,h0,Value.oneCell']; done)
   | (obtain ⟨rfl,rfl⟩:=h; simp [eqGuard,binOp,Op.intArith,Op.intBits,Op.intCmp,Value.oneCell',bne]; done)
   | (obtain ⟨rfl,rfl⟩:=h; exact ⟨by simp [eqGuard,binOp,Op.intCmp,bne,Int.beq_eq_decide'],rfl⟩)
   | (obtain ⟨h0,rfl⟩:=h
      have h1:¬ b<0:=by omega
      simp [eqGuard,binOp,Op.shift,h1,Value.oneCell']; done)
 ·rename_i a b
  cases op <;> simp only [Option.ite_none_right_eq_some,Option.some.injEq,reduceCtorEq] at h
  all_goals first
   | (subst h; simp [eqGuard,binOp,Op.stringOp,Value.oneCell',sLt,sLe,baB]; done)
   | (obtain ⟨h0,rfl⟩:=h
      have h0:a.size+b.size≤9223372036854775807:=of_decide_eq_true h0
      have h1:¬ IntKind.i64.max<((a.size+b.size:Nat):Int):=by
       have:IntKind.i64.max=9223372036854775807:=rfl
       rw [this]; omega
      simp only [eqGuard,binOp,Op.stringOp]
      simp [Value.oneCell']
      omega)
 ·rename_i a b
  split at h
  ·rename_i hu
   cases op <;> simp only [Option.some.injEq,reduceCtorEq] at h
   all_goals (subst h; simp [eqGuard,binOp,Op.equal,Op.maxDepth,run_equalIn_bool' w _ _ _ _ hu,Value.oneCell'])
  ·cases h
 ·cases h
def eqT (P:Program):Nat→TypeId→List PV→List PV→Option Bool
 | 0,_,_,_=>none
 | d+1,T,cs,ds=>
  match P.underlying T with
  | some .bool=>match cs,ds with
   | .v (.bool a)::_,.v (.bool b)::_=>some (a == b)
   | _,_=>none
  | some (.int _)=>match cs,ds with
   | .v (.int k a)::_,.v (.int k' b)::_=>if k=k' then some (a == b) else none
   | _,_=>none
  | some .string=>match cs,ds with
   | .v (.string a)::_,.v (.string b)::_=>some (a.toList == b.toList)
   | _,_=>none
  | some (.struct _)=>if P.stoodInHeld T then none else
   (P.fieldsOf T).toList.foldr (fun f acc => if f.name = "_" then none else match eqT P d f.type ((cs.drop f.offset).take (P.cellsOf f.type)) ((ds.drop f.offset).take (P.cellsOf f.type)), acc with
    | some r,some s=>some (r && s)
    | _,_=>none) (some true)
  | _=>none
section
variable {w:World} {O:Nat→Prop} {E:Env} {w0:World} {m:Mem} {P:Program}
def ZfR (w:World) (E:Env) (P:Program) (T:TypeId) (cs:List PV) (x:Value):Prop:=
 ∀ d,P.underlying T=some d→(aggd d=true→∃ vs:Array Value,x=.agg vs∧∀ (j:Nat) (p:PV),cs[j]?=some p→∃ v,vs[j]?=some v∧Rep w E p v)∧(aggd d=false→∀ p,cs[0]?=some p→Rep w E p x)
theorem Zni:∀ (d:Nat) (T:TypeId) (cs ds:List PV) (x y:Value) (r:Bool),eqT P d T cs ds=some r→ZfR w E P T cs x→ZfR w E P T ds y→∀ w':World,(Op.equalIn d T x y).run P w'=.ok r w'
 | 0,_,_,_,_,_,_,h,_,_,_=>by simp [eqT] at h
 | d+1,T,cs,ds,x,y,r,h,hx,hy,w'=>by
  unfold eqT at h
  split at h
  ·rename_i hu
   split at h
   ·rename_i a _ b _
    have h1:=((hx _ hu).2 rfl _ rfl).v_inv.1
    have h2:=((hy _ hu).2 rfl _ rfl).v_inv.1
    subst h1 h2
    simp only [Option.some.injEq] at h
    subst h
    exact run_equalIn_bool' w' _ _ _ _ hu
   ·cases h
  ·rename_i k0 hu
   split at h
   ·rename_i k a _ k' b _
    simp only [Option.ite_none_right_eq_some,Option.some.injEq] at h
    obtain ⟨rfl,rfl⟩:=h
    have h1:=((hx _ hu).2 rfl _ rfl).v_inv.1
    have h2:=((hy _ hu).2 rfl _ rfl).v_inv.1
    subst h1 h2
    simp [Op.equalIn,run_underlying hu]
   ·cases h
  ·rename_i hu
   split at h
   ·rename_i a _ b _
    have h1:=((hx _ hu).2 rfl _ rfl).v_inv.1
    have h2:=((hy _ hu).2 rfl _ rfl).v_inv.1
    subst h1 h2
    simp only [Option.some.injEq] at h
    subst h
    exact run_equalIn_string w' _ _ _ _ hu
   ·cases h
  ·rename_i fs hu
   simp only [Option.ite_none_left_eq_some] at h
   obtain ⟨hst,h⟩:=h
   have hst':P.stoodInHeld T=false:=by simpa using hst
   obtain ⟨vs,rfl,hvs⟩:=(hx _ hu).1 rfl
   obtain ⟨us,rfl,hus⟩:=(hy _ hu).1 rfl
   have hf:P.fieldsOf T=fs:=by simp [Program.fieldsOf,hu]
   rw [run_equalIn_struct w' d T vs us (by rw [hf]; exact hu) hst',hf]
   rw [hf] at h
   generalize fs.toList=l at h
   clear hu hf
   induction l generalizing r with
   | nil=>simp only [List.foldr_nil,Option.some.injEq] at h; subst h; simp [Op.eqFields]
   | cons f l ih=>
    simp only [List.foldr_cons,Option.ite_none_left_eq_some] at h
    obtain ⟨hn,h⟩:=h
    split at h
    ·rename_i r1 r2 h1 h2
     simp only [Option.some.injEq] at h
     subst h
     have part_of:∀ {zs:Array Value} {es:List PV},(∀ (j:Nat) (p:PV),es[j]?=some p→∃ v,zs[j]?=some v∧Rep w E p v)→((es.drop f.offset).take (P.cellsOf f.type))≠[]∨(∃ fs,P.underlying f.type=some (.struct fs))→
      (∃ dd,P.underlying f.type=some dd)→∃ z,(part f.type zs f.offset).run P w'=.ok z w'∧ZfR w E P f.type ((es.drop f.offset).take (P.cellsOf f.type)) z:=by
      intro zs es hz hne ⟨dd,hd⟩
      obtain ⟨i,hi,hs,_⟩:=Zkx hd
      cases hag:aggd dd with
      | true=>
       refine ⟨.agg (zs.extract f.offset (f.offset+P.cellsOf f.type)),by simp [part,ZeQ hd,hag,Zbc hi,hs],?_⟩
       intro d' hd'
       rw [hd] at hd'; cases hd'
       refine ⟨fun _=>⟨_,rfl,fun j p hp=>?_⟩,fun h=>by rw [hag] at h; cases h⟩
       rw [List.getElem?_take] at hp
       split at hp
       ·rename_i hj
        rw [List.getElem?_drop] at hp
        obtain ⟨v,h1,h2⟩:=hz _ p hp
        refine ⟨v,?_,h2⟩
        have:=(Array.getElem?_eq_some_iff.1 h1).1
        rw [Array.getElem?_extract,if_pos (by omega)]
        exact h1
       ·cases hp
      | false=>
       have hne':((es.drop f.offset).take (P.cellsOf f.type))≠[]:=by
        rcases hne with h | ⟨fs,h⟩
        ·exact h
        ·rw [hd] at h; cases h; simp [aggd] at hag
       obtain ⟨p,hp⟩:∃ p,((es.drop f.offset).take (P.cellsOf f.type))[0]?=some p:=by
        cases hq:((es.drop f.offset).take (P.cellsOf f.type)) with
        | nil=>exact absurd hq hne'
        | cons a _=>exact ⟨a,rfl⟩
       have hp':es[f.offset]?=some p:=by
        rw [List.getElem?_take] at hp
        split at hp
        ·simpa using hp
        ·cases hp
       obtain ⟨v,h1,h2⟩:=hz _ p hp'
       refine ⟨v,by simp [part,ZeQ hd,hag,h1],?_⟩
       intro d' hd'
       rw [hd] at hd'; cases hd'
       refine ⟨fun h=>(by rw [hag] at h; cases h),fun _ q hq=>?_⟩
       rw [hp] at hq; cases hq
       exact h2
     have hshape:(((cs.drop f.offset).take (P.cellsOf f.type))≠[]∨(∃ fs,P.underlying f.type=some (.struct fs)))∧(((ds.drop f.offset).take (P.cellsOf f.type))≠[]∨(∃ fs,P.underlying f.type=some (.struct fs)))∧∃ dd,P.underlying f.type=some dd:=by
      cases d with
      | zero=>simp [eqT] at h1
      | succ d=>
       unfold eqT at h1
       split at h1
       ·rename_i hu'
        split at h1
        ·rename_i e1 e2; exact ⟨.inl (by rw [e1]; simp),.inl (by rw [e2]; simp),_,hu'⟩
        ·cases h1
       ·rename_i hu'
        split at h1
        ·rename_i e1 e2; exact ⟨.inl (by rw [e1]; simp),.inl (by rw [e2]; simp),_,hu'⟩
        ·cases h1
       ·rename_i hu'
        split at h1
        ·rename_i e1 e2; exact ⟨.inl (by rw [e1]; simp),.inl (by rw [e2]; simp),_,hu'⟩
        ·cases h1
       ·rename_i fs' hu'
        exact ⟨.inr ⟨fs',hu'⟩,.inr ⟨fs',hu'⟩,_,hu'⟩
       ·cases h1
     obtain ⟨a,ha,hac⟩:=part_of hvs hshape.1 hshape.2.2
     obtain ⟨b,hb,hbc⟩:=part_of hus hshape.2.1 hshape.2.2
     have hr:=Zni d f.type _ _ a b r1 h1 hac hbc w'
     simp only [Op.eqFields,hn,ne_eq,not_false_eq_true,if_true,Sem.run_bind,ha,hb,hr,Result.andThen_ok,Sem.run_ite]
     cases r1 with
     | true=>simpa using ih r2 h2
     | false=>simp
    ·cases h
  ·cases h
def optK (o:Option Value) (K:PV→Prop):Prop:=match o with
 | some r=>K (.v r)
 | none=>False
def eqK (P:Program) (op:BinOp) (T:TypeId) (cs ds:List PV) (K:PV→Prop):Prop:=P.eqGuardType P.depth T=false∧match P.underlying T,eqT P 10000 T cs ds with
    | some (.struct _),some r=>match op with
     | .eql=>K (.v (.bool r))
     | .neq=>K (.v (.bool !r))
     | _=>False
    | _,_=>False
def pBin (P:Program) (op:BinOp) (T:TypeId) (x y:PV) (K:PV→Prop):Prop:=
 match x,y with
 | .v a,.v b=>optK (binV P op T a b) K
 | .ag cs,.ag ds=>eqK P op T cs ds K
 | _,_=>False
theorem Zmo {op:BinOp} {T:TypeId} {ox oy:Operand} {p q:PV} {x y:Value} (hx:Rep w E p x) (hy:Rep w E q y) {K:PV→Prop} (h:pBin P op T p q K):
 ∃ r v,K r∧(∀ w',((do eqGuard op T ox oy x y; binOp op T x y:Sem Value).run P w')=.ok v w')∧Rep w E r v:=by
 unfold pBin at h
 split at h
 ·rename_i a b
  obtain ⟨rfl,_⟩:=hx.v_inv
  obtain ⟨rfl,_⟩:=hy.v_inv
  unfold optK at h
  split at h
  ·rename_i r hr
   exact ⟨_,r,h,fun w'=>(Zle hr w').1,.c (.v r (Zle (x:=ox) (y:=oy) hr w).2)⟩
  ·exact h.elim
 ·rename_i cs ds
  unfold eqK at h
  obtain ⟨hg,h⟩:=h
  obtain ⟨vs,rfl,hl,_,hr⟩:=hx.ag_inv
  obtain ⟨us,rfl,hl',_,hr'⟩:=hy.ag_inv
  split at h
  ·rename_i fs r hu he
   have c1:ZfR w E P T cs (.agg vs):=by
    intro d hd
    rw [hu] at hd; cases hd
    refine ⟨fun _=>⟨vs,rfl,fun j p hp=>?_⟩,fun h=>by simp [aggd] at h⟩
    have hj:j<vs.size:=by rw [hl]; exact (List.getElem?_eq_some_iff.1 hp).1
    exact ⟨vs[j],Array.getElem?_eq_getElem hj,hr j p _ hp (Array.getElem?_eq_getElem hj)⟩
   have c2:ZfR w E P T ds (.agg us):=by
    intro d hd
    rw [hu] at hd; cases hd
    refine ⟨fun _=>⟨us,rfl,fun j p hp=>?_⟩,fun h=>by simp [aggd] at h⟩
    have hj:j<us.size:=by rw [hl']; exact (List.getElem?_eq_some_iff.1 hp).1
    exact ⟨us[j],Array.getElem?_eq_getElem hj,hr' j p _ hp (Array.getElem?_eq_getElem hj)⟩
   have hrun:=fun w'=>Zni (w:=w) (E:=E) 10000 T cs ds _ _ r he c1 c2 w'
   split at h
   ·exact ⟨_,.bool r,h,fun w'=>by simp only [Sem.run_bind,run_eqGuard_agg w' _ _ _ _ _ _ hg,Result.andThen_ok,run_eql_struct,hrun],.c (.v _ rfl)⟩
   ·exact ⟨_,.bool !r,h,fun w'=>by simp only [Sem.run_bind,run_eqGuard_agg w' _ _ _ _ _ _ hg,Result.andThen_ok,run_neq_struct,hrun],.c (.v _ rfl)⟩
   ·exact h.elim
  ·exact h.elim
 ·exact h.elim
end
section
variable {w:World} {O:Nat→Prop} {E:Env} {w0:World} {m:Mem} {P:Program}
def pUn (op:UnOp) (x:PV) (K:PV→Prop):Prop:=
 match op,x with
 | .not,.v (.bool b)=>K (.v (.bool !b))
 | .neg,.v (.int k n)=>K (.v (.int k (k.wrap (0-n))))
 | _,_=>False
theorem ZnW {op:UnOp} {p:PV} {x:Value} (hx:Rep w E p x) {K:PV→Prop} (h:pUn op p K):∃ r v,K r∧(∀ w',(Op.unary op x).run P w'=.ok v w')∧Rep w E r v:=by
 unfold pUn at h
 split at h
 ·obtain ⟨rfl,_⟩:=hx.v_inv
  exact ⟨_,_,h,fun w'=>by simp [Op.unary],.c (.v _ rfl)⟩
 ·obtain ⟨rfl,_⟩:=hx.v_inv
  exact ⟨_,_,h,fun w'=>by simp [Op.unary,Op.intArith],.c (.v _ rfl)⟩
 ·exact h.elim
def ZkL (P:Program) (s d:TypeId) (x:PV) (K:PV→Prop):Prop:=
 match P.underlying s,P.underlying d,x with
 | some (.int _),some (.int k),.v (.int _ n)=>K (.v (.int k (k.wrap n)))
 | some .string,some .string,.v (.string t)=>K (.v (.string t))
 | _,_,_=>False
theorem ZkM {s d:TypeId} {p:PV} {x:Value} (hx:Rep w E p x) {K:PV→Prop} (h:ZkL P s d p K):∃ r v,K r∧(∀ w',(convert s d x).run P w'=.ok v w')∧Rep w E r v:=by
 unfold ZkL at h
 split at h
 ·rename_i _ k _ n h1 h2
  obtain ⟨rfl,_⟩:=hx.v_inv
  exact ⟨_,_,h,fun w'=>by simp [convert,run_underlying h1,run_underlying h2,Conv.intToInt],.c (.v _ rfl)⟩
 ·rename_i t h1 h2
  obtain ⟨rfl,_⟩:=hx.v_inv
  exact ⟨_,_,h,fun w'=>by simp [convert,run_underlying h1,run_underlying h2],.c (.v _ rfl)⟩
 ·exact h.elim
def live (m:Mem) (l:Nat) (K:MB→Prop):Prop:=
 match m[l]? with
 | some (some mb)=>K mb
 | _=>False
theorem Zb4 {l:Nat} {K:MB→Prop} (h:live m l K):∃ mb,m[l]?=some (some mb)∧K mb:=by
 unfold live at h
 split at h
 ·exact ⟨_,by assumption,h⟩
 ·exact h.elim
def pBd (x:Option PV) (d:Int):Option Int:=
 match x with
 | none=>some d
 | some (.v (.int _ i))=>some i
 | _=>none
def pSlice (P:Program) (m:Mem) (T:TypeId) (x:PV) (lo hi:Option PV) (K:PV→Prop):Prop:=
 match P.underlying T,x with
 | some .string,.v (.string s)=>match pBd lo 0,pBd hi s.size with
  | some l,some h=>0≤l∧l≤h∧h≤s.size∧K (.v (.string (s.extract l.toNat h.toNat)))
  | _,_=>False
 | some (.slice e),.sl es=>match pBd lo 0,pBd hi es.length with
  | some l,some h=>0≤l∧l≤h∧h≤es.length∧0<P.cellsOf e∧(∀ cs∈es,cs.length=P.cellsOf e)∧K (.sl ((es.drop l.toNat).take (h.toNat-l.toNat)))
  | _,_=>False
 | some (.slice e),.ms r=>live m r fun mb=>match pBd lo 0,pBd hi mb.es.length with
  | some l,some h=>0≤l∧l≤h∧h≤mb.es.length∧0<P.cellsOf e∧mb.k=P.cellsOf e∧K (.ss r l.toNat h.toNat)
  | _,_=>False
 | some (.slice e),.ss r a b=>live m r fun mb=>match pBd lo 0,pBd hi (b-a:Nat) with
  | some l,some h=>0≤l∧l≤h∧h≤(b-a:Nat)∧0<P.cellsOf e∧mb.k=P.cellsOf e∧K (.ss r (a+l.toNat) (a+h.toNat))
  | _,_=>False
 | some (.slice e),.v (.slice none 0 0)=>match pBd lo 0,pBd hi 0 with
  | some l,some h=>0≤l∧l≤h∧h≤0∧0<P.cellsOf e∧K (.sl [])
  | _,_=>False
 | _,_=>False
theorem ZfF {y:Nat} {c:BoundsCode} {k:IntKind} {i:Int} (h0:0≤i) (h1:i≤y) (w':World):(Instr.sliceBound (.int k i) y c).run P w'=.ok i.toNat w':=by
 simp [Instr.sliceBound,asIntOf,h0,h1]
theorem ZeI {x:Option PV} {v:Option Value} {d l:Int} (h:pBd x d=some l) (hx:∀ p,x=some p→∃ y,v=some y∧Rep w E p y) (hn:x=none→v=none):(v=none∧l=d∧x=none)∨∃ k,v=some (.int k l):=by
 unfold pBd at h
 split at h
 ·exact .inl ⟨hn rfl,by simpa [eq_comm] using h,rfl⟩
 ·rename_i k i
  obtain ⟨y,hy,hr⟩:=hx _ rfl
  obtain ⟨rfl,_⟩:=hr.v_inv
  simp only [Option.some.injEq] at h
  subst h
  exact .inr ⟨k,hy⟩
 ·cases h
theorem ZbD {isS:Bool} {len cap:Nat} {vlo vhi:Option Value} {l h:Int} (hlo:(vlo=none∧l=0)∨∃ k,vlo=some (.int k l)) (hhi:(vhi=none∧h=len)∨∃ k,vhi=some (.int k h)) (h0:0≤l) (h1:l≤h) (h2:h≤len) (hc:len≤cap) (w':World):
 (Instr.sliceBounds isS len cap vlo vhi none).run P w'=.ok (l.toNat,h.toNat,cap) w':=by
 have e1:(l:Int)≤(h.toNat:Int):=by omega
 have e2:h≤(cap:Int):=by omega
 have e3:0≤h:=by omega
 have r1:∀ k c,(Instr.sliceBound (.int k l) h.toNat c).run P w'=.ok l.toNat w':=fun k c=>ZfF h0 e1 w'
 have r2:∀ k c,(Instr.sliceBound (.int k h) cap c).run P w'=.ok h.toNat w':=fun k c=>ZfF e3 e2 w'
 clear e1 e2 e3 hc h2
 rcases hlo with ⟨rfl,rfl⟩ | ⟨k,rfl⟩ <;> rcases hhi with ⟨rfl,rfl⟩ | ⟨k',rfl⟩ <;>
  (try simp only [Int.toNat_natCast] at r1) <;> simp [Instr.sliceBounds,r1,r2]
theorem ZeG {T e:TypeId} {i:TypeInfo} (hu:P.underlying T=some (.slice e)) (hi':P.info? e=some i) (hs:i.size=P.cellsOf e) {A:Option Addr} {n c:Nat} {vlo vhi:Option Value} {l hh:Int} {w':World}
 (hb:(Instr.sliceBounds true n c vlo vhi none).run P w'=.ok (l.toNat,hh.toNat,c) w'):
 (Instr.sliceAt T (.slice A n c) vlo vhi none).run P w'=.ok (.slice (if c=l.toNat then A else A.map (·.add (l.toNat*P.cellsOf e))) (hh.toNat-l.toNat) (c-l.toNat)) w':=by
 simp [Instr.sliceAt,Instr.slice,run_underlying hu,hb,Zbc hi',hs]
theorem ZjY (hk:Ok w0 O E w m) {T:TypeId} {p:PV} {lo hi:Option PV} {x:Value} {vlo vhi:Option Value} (hx:Rep w E p x) (h1:∀ p,lo=some p→∃ y,vlo=some y∧Rep w E p y) (h1n:lo=none→vlo=none)
 (h2:∀ p,hi=some p→∃ y,vhi=some y∧Rep w E p y) (h2n:hi=none→vhi=none) {K:PV→Prop} (h:pSlice P m T p lo hi K):
 ∃ r v,K r∧(∀ w',(Instr.sliceAt T x vlo vhi none).run P w'=.ok v w')∧Rep w E r v:=by
 unfold pSlice at h
 split at h
 ·rename_i s hu
  obtain ⟨rfl,_⟩:=hx.v_inv
  split at h
  ·rename_i l hh e1 e2
   obtain ⟨a1,a2,a3,hK⟩:=h
   refine ⟨_,.string (s.extract l.toNat hh.toNat),hK,fun w'=>?_,.c (.v _ rfl)⟩
   have b1:=ZeI e1 h1 h1n
   have b2:=ZeI e2 h2 h2n
   have hb:=ZbD (P:=P) (isS:=false) (len:=s.size) (cap:=s.size) (l:=l) (h:=hh) (vlo:=vlo) (vhi:=vhi) (by rcases b1 with ⟨a,b,_⟩ | b; exact .inl ⟨a,b⟩; exact .inr b) (by rcases b2 with ⟨a,b,_⟩ | b; exact .inl ⟨a,b⟩; exact .inr b) a1 a2 a3 (Nat.le_refl _) w'
   simp [Instr.sliceAt,Instr.slice,run_underlying hu,hb]
  ·exact h.elim
 ·rename_i e es hu
  split at h
  ·rename_i l hh e1 e2
   obtain ⟨a1,a2,a3,hpos,hlen,hK⟩:=h
   have b1:=ZeI e1 h1 h1n
   have b2:=ZeI e2 h2 h2n
   obtain ⟨i,hi',hs⟩:=ZbY hpos
   cases hx.sl_inv with
   | nil A c=>
    simp only [List.length_nil] at a3 b2
    have hl0:l=0:=by simp at a3; omega
    have hh0:hh=0:=by simp at a3; omega
    subst hl0 hh0
    have hb:=ZbD (P:=P) (isS:=true) (len:=0) (cap:=c) (l:=0) (h:=0) (vlo:=vlo) (vhi:=vhi) (by rcases b1 with ⟨a,b,_⟩ | b; exact .inl ⟨a,b⟩; exact .inr b) (by rcases b2 with ⟨a,b,_⟩ | b; exact .inl ⟨a,b⟩; exact .inr b) (by omega) (by omega) (by simp) (Nat.zero_le _)
    refine ⟨_,.slice (if c=0 then A else A.map (·.add 0)) 0 c,hK,fun w'=>?_,?_⟩
    ·simp [Instr.sliceAt,Instr.slice,run_underlying hu,hb,Zbc hi']
    ·simp only [Int.toNat_zero,List.drop_zero,Nat.sub_self,List.take_zero]
     exact .c (.nil _ _)
   | sl _ b off k c u hS hk hn hm hes hc h1' hr=>
    have hb:=ZbD (P:=P) (isS:=true) (len:=es.length) (cap:=c) (l:=l) (h:=hh) (vlo:=vlo) (vhi:=vhi) (by rcases b1 with ⟨a,b,_⟩ | b; exact .inl ⟨a,b⟩; exact .inr b) (by rcases b2 with ⟨a,b,_⟩ | b; exact .inl ⟨a,b⟩; exact .inr b) a1 a2 a3 hn
    have hlt:((es.drop l.toNat).take (hh.toNat-l.toNat)).length=hh.toNat-l.toNat:=by
     rw [List.length_take,List.length_drop]; omega
    refine ⟨_,.slice (if c=l.toNat then some ⟨b,off,none⟩ else some ((⟨b,off,none⟩:Addr).add (l.toNat*P.cellsOf e))) (hh.toNat-l.toNat) (c-l.toNat),hK,fun w'=>?_,?_⟩
    ·simp [Instr.sliceAt,Instr.slice,run_underlying hu,hb,Zbc hi',hs]
    ·rcases Nat.eq_zero_or_pos (hh.toNat-l.toNat) with h0 | h0
     ·rw [h0]; simp only [List.take_zero]; exact .c (.nil _ _)
     ·have hne:¬ c=l.toNat:=by omega
      rw [if_neg hne]
      have hek:k=P.cellsOf e:=by
       have hl:l.toNat<es.length:=by omega
       exact (hes _ _ (List.getElem?_eq_getElem hl)).symm.trans (hlen _ (List.getElem_mem hl))
      have ea:(⟨b,off,none⟩:Addr).add (l.toNat*P.cellsOf e)=⟨b,off+l.toNat*k,none⟩:=by rw [hek]; unfold Addr.add; split <;> simp_all
      have get:∀ {i:Nat} {cs:List PV},((es.drop l.toNat).take (hh.toNat-l.toNat))[i]?=some cs→es[l.toNat+i]?=some cs:=by
       intro i cs hi
       rw [List.getElem?_take] at hi
       split at hi
       ·rwa [List.getElem?_drop] at hi
       ·cases hi
      have key:=RepC.sl (w:=w) (S:=E.S) ((es.drop l.toNat).take (hh.toNat-l.toNat)) b (off+l.toNat*k) k (c-l.toNat) (fun i j=>u (l.toNat+i) j) hS hk (by rw [hlt]; omega) (by omega)
       (fun i cs hi=>hes _ cs (get hi)) (fun i cs j p hi hj=>by
        have:=hc _ cs j p (get hi) hj
        rw [Nat.add_mul] at this
        rw [← this]
        congr 2
        omega) (fun i cs j p hi hj=>h1' _ cs j p (get hi) hj) (fun i cs j p hi hj=>hr _ cs j p (get hi) hj)
      rw [hlt] at key
      rw [ea]
      exact .c key
  ·exact h.elim
 ·rename_i e r hu
  obtain ⟨mb,hm,h⟩:=Zb4 h
  split at h
  ·rename_i l hh e1 e2
   obtain ⟨a1,a2,a3,hpos,hkk,hK⟩:=h
   have b1:=ZeI e1 h1 h1n
   have b2:=ZeI e2 h2 h2n
   obtain ⟨i,hi',hs⟩:=ZbY hpos
   obtain ⟨B,hB,hbr,rfl⟩:=hx.ms_inv hk hm
   have hbn:=hbr.n
   have hnc:=hbr.nc
   have hsl:∃ A n c,B.sv=.slice A n c∧n=mb.es.length∧n≤c∧c≤maxLen∧(0<n→B.z=false∧A=some ⟨B.b,0,none⟩):=by
    cases hz:B.z with
    | true=>exact ⟨none,0,0,by simp [Blk.sv,hz],by rw [hbr.nil hz]; rfl,by omega,by unfold maxLen; omega,by omega⟩
    | false=>exact ⟨_,_,_,by simp [Blk.sv,hz],hbn,hnc,hbr.cm,fun _=>⟨rfl,rfl⟩⟩
   obtain ⟨A,n,c,hsv,hn,hnc',hcm,hA⟩:=hsl
   rw [hsv]
   have hb:=ZbD (P:=P) (isS:=true) (len:=n) (cap:=c) (l:=l) (h:=hh) (vlo:=vlo) (vhi:=vhi) (by rcases b1 with ⟨a,b,_⟩ | b; exact .inl ⟨a,b⟩; exact .inr b) (by rcases b2 with ⟨a,b,_⟩ | b; exact .inl ⟨a,by rw [b,hn]⟩; exact .inr b) a1 a2 (by rw [hn]; exact a3) hnc'
   refine ⟨_,_,hK,fun w'=>ZeG hu hi' hs (hb w'),.ss _ _ _ _ (Zcs hk hm) rfl fun B' hB'=>?_⟩
   rw [hB] at hB'; cases hB'
   refine ⟨_,_,rfl,by omega,by omega,fun hlt=>?_⟩
   obtain ⟨hz,hA'⟩:=hA (by omega)
   refine ⟨hz,?_,by omega,by omega⟩
   rw [if_neg (by omega),hA']
   have:(⟨B.b,0,none⟩:Addr).add (l.toNat*P.cellsOf e)=⟨B.b,l.toNat*B.k,none⟩:=by rw [hbr.k,hkk]; unfold Addr.add; split <;> simp_all
   simp [this]
  ·exact h.elim
 ·rename_i e r a b hu
  obtain ⟨mb,hm,h⟩:=Zb4 h
  split at h
  ·rename_i l hh e1 e2
   obtain ⟨a1,a2,a3,hpos,hkk,hK⟩:=h
   have b1:=ZeI e1 h1 h1n
   have b2:=ZeI e2 h2 h2n
   obtain ⟨i,hi',hs⟩:=ZbY hpos
   obtain ⟨B,hB,hbr,A,c,rfl,hab,hbB,hA⟩:=hx.ss_inv hk hm
   rcases Nat.lt_or_ge a b with hlt | hge
   ·obtain ⟨hz,rfl,hc1,hc2⟩:=hA hlt
    have hb:=ZbD (P:=P) (isS:=true) (len:=b-a) (cap:=c) (l:=l) (h:=hh) (vlo:=vlo) (vhi:=vhi) (by rcases b1 with ⟨a,b,_⟩ | b; exact .inl ⟨a,b⟩; exact .inr b) (by rcases b2 with ⟨a,b,_⟩ | b; exact .inl ⟨a,b⟩; exact .inr b) a1 a2 a3 hc1
    refine ⟨_,_,hK,fun w'=>ZeG hu hi' hs (hb w'),.ss _ _ _ _ (Zcs hk hm) rfl fun B' hB'=>?_⟩
    rw [hB] at hB'; cases hB'
    refine ⟨_,_,by congr 1; omega,by omega,by omega,fun hlt'=>?_⟩
    refine ⟨hz,?_,by omega,by omega⟩
    rw [if_neg (by omega)]
    have:(⟨B.b,a*B.k,none⟩:Addr).add (l.toNat*P.cellsOf e)=⟨B.b,(a+l.toNat)*B.k,none⟩:=by
     rw [hbr.k,hkk,Nat.add_mul]; unfold Addr.add; split <;> simp_all
    simp [this]
   ·have hl0:l=0:=by omega
    have hh0:hh=0:=by omega
    subst hl0 hh0
    have hba:b-a=0:=by omega
    rw [hba]
    have hb:=ZbD (P:=P) (isS:=true) (len:=0) (cap:=c) (l:=0) (h:=0) (vlo:=vlo) (vhi:=vhi) (by rcases b1 with ⟨a,b,_⟩ | b; exact .inl ⟨a,b⟩; exact .inr b) (by rcases b2 with ⟨a,b,_⟩ | b; exact .inl ⟨a,by omega⟩; exact .inr b) (by omega) (by omega) (by omega) (Nat.zero_le _)
    refine ⟨_,_,hK,fun w'=>ZeG hu hi' hs (hb w'),.ss _ _ _ _ (Zcs hk hm) rfl fun B' hB'=>?_⟩
    rw [hB] at hB'; cases hB'
    exact ⟨_,_,by congr 1; simp,by omega,by simp; omega,fun hlt'=>by simp at hlt'⟩
  ·exact h.elim
 ·rename_i e hu
  split at h
  ·rename_i l hh e1 e2
   obtain ⟨a1,a2,a3,hpos,hK⟩:=h
   have b1:=ZeI e1 h1 h1n
   have b2:=ZeI e2 h2 h2n
   obtain ⟨i,hi',hs⟩:=ZbY hpos
   obtain ⟨rfl,_⟩:=hx.v_inv
   have hl0:l=0:=by omega
   have hh0:hh=0:=by omega
   subst hl0 hh0
   have hb:=ZbD (P:=P) (isS:=true) (len:=0) (cap:=0) (l:=0) (h:=0) (vlo:=vlo) (vhi:=vhi) (by rcases b1 with ⟨a,b,_⟩ | b; exact .inl ⟨a,b⟩; exact .inr b) (by rcases b2 with ⟨a,b,_⟩ | b; exact .inl ⟨a,b⟩; exact .inr b) (by omega) (by omega) (by omega) (Nat.zero_le _)
   exact ⟨_,_,hK,fun w'=>ZeG hu hi' hs (hb w'),.c (.nil _ _)⟩
  ·exact h.elim
 ·exact h.elim
def pNil (m:Mem) (x:PV) (K:PV→Prop):Prop:=
 match x with
 | .be l i o=>live m l fun _=>K (.be l i o)
 | .rp cs=>K (.rp cs)
 | _=>False
def pFieldAddr (P:Program) (m:Mem) (S:TypeId) (x:PV) (f:Nat) (K:PV→Prop):Prop:=
 match P.underlying S with
 | some (.struct fs)=>match fs[f]? with
  | some fd=>0<P.cellsOf fd.type∧match x with
   | .be l i o=>live m l fun _=>K (.be l i (o+fd.offset))
   | .rp cs=>K (.rp (cs.drop fd.offset))
   | _=>False
  | none=>False
 | _=>False
theorem ZgT (hk:Ok w0 O E w m) {S:TypeId} {p:PV} {f:Nat} {x:Value} (hx:Rep w E p x) {K:PV→Prop} (h:pFieldAddr P m S p f K):
 ∃ r v,K r∧(∀ w',(Instr.fieldAt S x f).run P w'=.ok v w')∧Rep w E r v:=by
 unfold pFieldAddr at h
 split at h
 ·rename_i fs hu
  split at h
  ·rename_i fd hf
   obtain ⟨hpos,h⟩:=h
   obtain ⟨i,hi,hs⟩:=ZbY hpos
   have hne:¬ i.size=0:=by omega
   have run:∀ b o w',(Instr.fieldAt S (.pointer (some ⟨b,o,none⟩)) f).run P w'=.ok (.pointer (some ⟨b,o+fd.offset,none⟩)) w':=by
    intro b o w'
    have ea:(⟨b,o,none⟩:Addr).add fd.offset=⟨b,o+fd.offset,none⟩:=by unfold Addr.add; split <;> simp_all
    simp [Instr.fieldAt,run_underlying hu,hf,Instr.sureAddr,fieldPlace,Zbc hi,hne,ea]
   split at h
   ·rename_i l i' o
    obtain ⟨mb,hm,hK⟩:=Zb4 h
    obtain ⟨B,hB,hb,hz,rfl⟩:=hx.be_inv hk hm
    exact ⟨_,_,hK,run _ _,.be _ _ _ _ (Zcs hk hm) rfl fun B' hB'=>by rw [hB] at hB'; cases hB'; exact ⟨hz,by rw [Nat.add_assoc]⟩⟩
   ·rename_i cs
    cases hx.rp_inv with
    | rp _ b off u hS hc h1 hr=>
     refine ⟨_,_,h,run _ _,.c (.rp _ b (off+fd.offset) (fun j=>u (fd.offset+j)) hS (fun j p hj=>?_) (fun j p hj=>?_) fun j p hj=>?_)⟩
     ·rw [List.getElem?_drop] at hj; rw [Nat.add_assoc]; exact hc _ p hj
     ·rw [List.getElem?_drop] at hj; exact h1 _ p hj
     ·rw [List.getElem?_drop] at hj; exact hr _ p hj
   ·exact h.elim
  ·exact h.elim
 ·exact h.elim
def pField (P:Program) (S:TypeId) (x:PV) (f:Nat) (K:PV→Prop):Prop:=
 match P.underlying S with
 | some (.struct fs)=>match fs[f]?,x with
  | some fd,.ag cs=>pLoad P fd.type (some (cs.drop fd.offset)) K
  | _,_=>False
 | _=>False
theorem ZjV {S:TypeId} {p:PV} {f:Nat} {x:Value} (hx:Rep w E p x) {K:PV→Prop} (h:pField P S p f K):
 ∃ r v,K r∧(∀ w',(Instr.field S x f).run P w'=.ok v w')∧Rep w E r v:=by
 unfold pField at h
 split at h
 ·rename_i fs hu
  split at h
  ·rename_i fd cs hf
   obtain ⟨vs,rfl,hl,h1,hr⟩:=hx.ag_inv
   obtain ⟨r,v,hK,hrun,hrep⟩:=Zmt h hl h1 hr
   exact ⟨r,v,hK,fun w'=>by simp [Instr.field,run_underlying hu,hf,asAgg,hrun],hrep⟩
  ·exact h.elim
 ·exact h.elim
def pIndexAddr (P:Program) (m:Mem) (T:TypeId) (x i:PV) (K:PV→Prop):Prop:=
 match P.underlying T,i with
 | some (.slice e),.v (.int _ n)=>match x with
  | .sl es=>0≤n∧n<es.length∧0<P.cellsOf e∧(es.getD n.toNat []).length=P.cellsOf e∧K (.rp (es.getD n.toNat []))
  | .ms l=>live m l fun mb=>0≤n∧n<mb.es.length∧mb.k=P.cellsOf e∧K (.be l n.toNat 0)
  | .ss l a b=>live m l fun mb=>0≤n∧n<(b-a:Nat)∧mb.k=P.cellsOf e∧K (.be l (a+n.toNat) 0)
  | _=>False
 | _,_=>False
theorem ZgV (hk:Ok w0 O E w m) {T:TypeId} {p q:PV} {x y:Value} (hx:Rep w E p x) (hy:Rep w E q y) {K:PV→Prop} (h:pIndexAddr P m T p q K):
 ∃ r v,K r∧(∀ w',(Instr.indexAt T x y).run P w'=.ok v w')∧Rep w E r v:=by
 unfold pIndexAddr at h
 split at h
 ·rename_i e kk n hu
  obtain ⟨rfl,_⟩:=hy.v_inv
  split at h
  ·rename_i es
   obtain ⟨a1,a2,hpos,hlen,hK⟩:=h
   obtain ⟨i,hi,hs⟩:=ZbY hpos
   have hn:n.toNat<es.length:=by omega
   have hg:es.getD n.toNat []=es[n.toNat]:=by simp [List.getD,List.getElem?_eq_getElem hn]
   have hge:es[n.toNat]?=some (es.getD n.toNat []):=by rw [hg]; exact List.getElem?_eq_getElem hn
   cases hx.sl_inv with
   | nil A c=>simp at hn
   | sl _ b off k c u hS hkp hnc hm hes hc h1 hr=>
    have hek:k=P.cellsOf e:=(hes _ _ hge).symm.trans hlen
    have ea:(⟨b,off,none⟩:Addr).add (n.toNat*P.cellsOf e)=⟨b,off+n.toNat*k,none⟩:=by rw [hek]; unfold Addr.add; split <;> simp_all
    refine ⟨_,.pointer (some ⟨b,off+n.toNat*k,none⟩),hK,fun w'=>?_,.c (.rp _ b (off+n.toNat*k) (fun j=>u n.toNat j) hS (fun j p hj=>hc _ _ j p hge hj) (fun j p hj=>h1 _ _ j p hge hj) fun j p hj=>hr _ _ j p hge hj)⟩
    simp [Instr.indexAt,asIntOf,run_underlying hu,a1,a2,Zbc hi,hs,ea]
  ·rename_i l
   obtain ⟨mb,hm,a1,a2,hkk,hK⟩:=Zb4 h
   obtain ⟨B,hB,hb,rfl⟩:=hx.ms_inv hk hm
   have hz:=hb.full' (by omega)
   have hpos:0<P.cellsOf e:=by rw [← hkk,← hb.k]; exact hb.pos
   obtain ⟨i,hi,hs⟩:=ZbY hpos
   have ea:(⟨B.b,0,none⟩:Addr).add (n.toNat*P.cellsOf e)=⟨B.b,n.toNat*B.k,none⟩:=by rw [hb.k,hkk]; unfold Addr.add; split <;> simp_all
   refine ⟨_,.pointer (some ⟨B.b,n.toNat*B.k,none⟩),hK,fun w'=>?_,.be _ _ _ _ (Zcs hk hm) rfl fun B' hB'=>by rw [hB] at hB'; cases hB'; exact ⟨hz,rfl⟩⟩
   have a2':n<(B.n:Int):=by rw [hb.n]; exact a2
   simp [Blk.sv,hz,Instr.indexAt,asIntOf,run_underlying hu,a1,a2',Zbc hi,hs,ea]
  ·rename_i l a b
   obtain ⟨mb,hm,a1,a2,hkk,hK⟩:=Zb4 h
   obtain ⟨B,hB,hb,A,c,rfl,hab,hbB,hA⟩:=hx.ss_inv hk hm
   obtain ⟨hz,rfl,_,_⟩:=hA (by omega)
   have hpos:0<P.cellsOf e:=by rw [← hkk,← hb.k]; exact hb.pos
   obtain ⟨i,hi,hs⟩:=ZbY hpos
   have ea:(⟨B.b,a*B.k,none⟩:Addr).add (n.toNat*P.cellsOf e)=⟨B.b,(a+n.toNat)*B.k,none⟩:=by rw [hb.k,hkk,Nat.add_mul]; unfold Addr.add; split <;> simp_all
   refine ⟨_,.pointer (some ⟨B.b,(a+n.toNat)*B.k,none⟩),hK,fun w'=>?_,.be _ _ _ _ (Zcs hk hm) rfl fun B' hB'=>by rw [hB] at hB'; cases hB'; exact ⟨hz,rfl⟩⟩
   simp [Instr.indexAt,asIntOf,run_underlying hu,a1,a2,Zbc hi,hs,ea]
  ·exact h.elim
 ·exact h.elim
def byteAt (s:ByteArray) (i:Nat):Int:=((s[i]?).map (·.toNat)).getD 0
def pIndex (P:Program) (T:TypeId) (x i:PV) (K:PV→Prop):Prop:=
 match P.underlying T,x,i with
 | some .string,.v (.string s),.v (.int _ n)=>0≤n∧n<s.size∧K (.v (.int .u8 (byteAt s n.toNat)))
 | _,_,_=>False
theorem ZjW {T:TypeId} {p q:PV} {x y:Value} (hx:Rep w E p x) (hy:Rep w E q y) {K:PV→Prop} (h:pIndex P T p q K):
 ∃ r v,K r∧(∀ w',(Instr.index T x y).run P w'=.ok v w')∧Rep w E r v:=by
 unfold pIndex at h
 split at h
 ·rename_i s kk n hu
  obtain ⟨rfl,_⟩:=hx.v_inv
  obtain ⟨rfl,_⟩:=hy.v_inv
  obtain ⟨a1,a2,hK⟩:=h
  have hn:n.toNat<s.size:=by omega
  refine ⟨_,.int .u8 (byteAt s n.toNat),hK,fun w'=>?_,.c (.v _ rfl)⟩
  simp [Instr.index,asIntOf,run_underlying hu,a1,byteAt,hn]
 ·exact h.elim
def pExt (i:Nat) (x:PV) (K:PV→Prop):Prop:=
 match x with
 | .tu vs=>match vs[i]? with
  | some p=>K p
  | none=>False
 | _=>False
theorem Zmq {i:Nat} {p:PV} {x:Value} (hx:Rep w E p x) {K:PV→Prop} (h:pExt i p K):∃ r v,K r∧(∀ w',(Instr.extract x i).run P w'=.ok v w')∧Rep w E r v:=by
 unfold pExt at h
 split at h
 ·rename_i vs
  split at h
  ·rename_i q hq
   obtain ⟨us,rfl,hl,hr⟩:=hx.tu_inv
   have hi:i<us.size:=by rw [hl]; exact (List.getElem?_eq_some_iff.1 hq).1
   exact ⟨q,us[i],h,fun w'=>by simp [Instr.extract,Array.getElem?_eq_getElem hi],hr i q _ hq (Array.getElem?_eq_getElem hi)⟩
  ·exact h.elim
 ·exact h.elim
def pLen (P:Program) (m:Mem) (T:TypeId) (x:PV) (K:PV→Prop):Prop:=
 match P.underlying T,x with
 | some .string,.v (.string s)=>K (.v (.int .i64 s.size))
 | some (.slice _),.v (.slice none n _)=>K (.v (.int .i64 n))
 | some (.slice _),.sl es=>K (.v (.int .i64 es.length))
 | some (.slice _),.ms l=>live m l fun mb=>K (.v (.int .i64 mb.es.length))
 | some (.slice _),.ss l a b=>live m l fun _=>K (.v (.int .i64 (b-a:Nat)))
 | _,_=>False
theorem Zms (hk:Ok w0 O E w m) {T ty:TypeId} {p:PV} {x:Value} (hx:Rep w E p x) {K:PV→Prop} (h:pLen P m T p K):∃ r v,K r∧(∀ w',(Builtin.len_ #[T] ty #[x]).run P w'=.ok v w')∧Rep w E r v:=by
 unfold pLen at h
 split at h
 ·rename_i s hu
  obtain ⟨rfl,_⟩:=hx.v_inv
  exact ⟨_,_,h,fun w'=>by simp [Builtin.len_,run_underlying hu,goInt],.c (.v _ rfl)⟩
 ·rename_i e n c hu
  obtain ⟨rfl,_⟩:=hx.v_inv
  exact ⟨_,_,h,fun w'=>by simp [Builtin.len_,run_underlying hu,goInt],.c (.v _ rfl)⟩
 ·rename_i e es hu
  cases hx.sl_inv with
  | nil A c=>exact ⟨_,_,h,fun w'=>by simp [Builtin.len_,run_underlying hu,goInt],.c (.v _ rfl)⟩
  | sl=>exact ⟨_,_,h,fun w'=>by simp [Builtin.len_,run_underlying hu,goInt],.c (.v _ rfl)⟩
 ·rename_i e l hu
  obtain ⟨mb,hm,hK⟩:=Zb4 h
  obtain ⟨B,hB,hb,rfl⟩:=hx.ms_inv hk hm
  refine ⟨_,_,hK,fun w'=>?_,.c (.v _ rfl)⟩
  cases hz:B.z with
  | true=>simp [Blk.sv,hz,Builtin.len_,run_underlying hu,goInt,hb.nil hz]
  | false=>simp [Blk.sv,hz,Builtin.len_,run_underlying hu,goInt,hb.n]
 ·rename_i e l a b hu
  obtain ⟨mb,hm,hK⟩:=Zb4 h
  obtain ⟨B,hB,hb,A,c,rfl,_,_,_⟩:=hx.ss_inv hk hm
  exact ⟨_,_,hK,fun w'=>by simp [Builtin.len_,run_underlying hu,goInt],.c (.v _ rfl)⟩
 ·exact h.elim
end
def Zd4 (w:World) (E:Env) (cs:List PV) (a:Array Value):Prop:=
 a.size=cs.length∧∀ (j:Nat) (p:PV),cs[j]?=some p→∃ x,a[j]?=some x∧x.oneCell'=true∧Rep w E p x
def setR (cs:List PV) (off:Nat) (qs:List PV):List PV:=cs.take off++qs++cs.drop (off+qs.length)
def Zh5 (place:Nat→Option (Nat × Nat)):List PV→List (Nat × PV)→Option (List PV)
 | cs,[]=>some cs
 | cs,(i,p)::rest=>match place i,pc p with
  | some (off,size),some qs=>if qs.length=size∧off+qs.length≤cs.length then Zh5 place (setR cs off qs) rest else none
  | _,_=>none
section
variable {w:World} {O:Nat→Prop} {E:Env} {w0:World} {m:Mem} {P:Program}
theorem ZfP {cs qs:List PV} {off:Nat} (h:off+qs.length≤cs.length):(setR cs off qs).length=cs.length:=by
 simp only [setR,List.length_append,List.length_take,List.length_drop]; omega
theorem ZiY {cs qs:List PV} {off:Nat} (h:off+qs.length≤cs.length) (j:Nat):(setR cs off qs)[j]?=if off≤j∧j<off+qs.length then qs[j-off]? else cs[j]?:=by
 have hl:(cs.take off).length=off:=by rw [List.length_take]; omega
 unfold setR
 rw [List.append_assoc]
 rcases Nat.lt_or_ge j off with h1 | h1
 ·rw [List.getElem?_append_left (by omega),List.getElem?_take_of_lt h1,if_neg (by omega)]
 ·rw [List.getElem?_append_right (by omega),hl]
  rcases Nat.lt_or_ge j (off+qs.length) with h2 | h2
  ·rw [List.getElem?_append_left (by omega),if_pos ⟨h1,h2⟩]
  ·rw [List.getElem?_append_right (by omega),List.getElem?_drop,if_neg (by omega)]
   congr 1; omega
theorem Znn (qs:List Value):∀ (i off:Nat) (a:Array Value),((qs.zipIdx i).foldl (fun cs (c,j)=>cs.setIfInBounds (off+j) c) a).size=a.size∧
 ∀ j,((qs.zipIdx i).foldl (fun cs (c,j)=>cs.setIfInBounds (off+j) c) a)[j]?=if off+i≤j∧j<off+i+qs.length∧j<a.size then qs[j-(off+i)]? else a[j]?:=by
 induction qs with
 | nil=>intro i off a; exact ⟨rfl,fun j=>by simp; intro h1 h2; omega⟩
 | cons q qs ih=>
  intro i off a
  simp only [List.zipIdx_cons,List.foldl_cons]
  obtain ⟨h1,h2⟩:=ih (i+1) off (a.setIfInBounds (off+i) q)
  refine ⟨by rw [h1]; simp,fun j=>?_⟩
  rw [h2 j]
  simp only [Array.size_setIfInBounds,List.length_cons]
  by_cases e:j=off+i
  ·subst e
   rw [if_neg (by omega)]
   by_cases hs:off+i<a.size
   ·rw [if_pos (by omega),Array.getElem?_setIfInBounds_self_of_lt hs]; simp
   ·rw [if_neg (by omega),Array.getElem?_eq_none (by simp; omega),Array.getElem?_eq_none (by omega)]
  ·by_cases c:off+(i+1)≤j∧j<off+(i+1)+qs.length∧j<a.size
   ·rw [if_pos c,if_pos (by omega)]
    have:j-(off+i)=(j-(off+(i+1)))+1:=by omega
    rw [this,List.getElem?_cons_succ]
   ·rw [if_neg c,if_neg (by omega),Array.getElem?_setIfInBounds_ne (fun h=>e h.symm)]
theorem ZiG {place:Nat→Option (Nat × Nat)}:∀ (ps:List (Nat × PV)) (vs:List (Nat × Value)) (cs cs':List PV) (a:Array Value),Zd4 w E cs a→Zh5 place cs ps=some cs'→
 ps.length=vs.length→(∀ (j i:Nat) (p:PV),ps[j]?=some (i,p)→∃ x,vs[j]?=some (i,x)∧Rep w E p x)→∃ a',Instr.fill place a vs=some a'∧Zd4 w E cs' a'
 | [],[],cs,cs',a,h,hf,_,_=>by
  simp only [Zh5,Option.some.injEq] at hf
  subst hf
  exact ⟨a,rfl,h⟩
 | [],_::_,_,_,_,_,_,hl,_=>by simp at hl
 | _::_,[],_,_,_,_,_,hl,_=>by simp at hl
 | (i,p)::ps,(i',x)::vs,cs,cs',a,h,hf,hl,hr=>by
  obtain ⟨x',hx',hrep⟩:=hr 0 i p rfl
  simp only [List.getElem?_cons_zero,Option.some.injEq,Prod.mk.injEq] at hx'
  obtain ⟨rfl,rfl⟩:=hx'
  simp only [Zh5] at hf
  split at hf
  ·rename_i off size qs hp hq
   simp only [Option.ite_none_right_eq_some] at hf
   obtain ⟨⟨h1,h2⟩,hf⟩:=hf
   obtain ⟨c1,c2⟩:=ZlR hrep hq
   have hcond:¬ ((x.cells.size≠size || off+x.cells.size > a.size)=true):=by
    rw [c1,h1,h.1]; simp; omega
   obtain ⟨f1,f2⟩:=Znn x.cells.toList 0 off a
   have e:x.cells.zipIdx.foldl (fun cs (x:Value × Nat)=>cs.setIfInBounds (off+x.2) x.1) a=(x.cells.toList.zipIdx 0).foldl (fun cs (c,j)=>cs.setIfInBounds (off+j) c) a:=by
    rw [← Array.foldl_toList,Array.toList_zipIdx]
   have hnew:Zd4 w E (setR cs off qs) ((x.cells.toList.zipIdx 0).foldl (fun cs (c,j)=>cs.setIfInBounds (off+j) c) a):=by
    refine ⟨by rw [f1,h.1,ZfP h2],fun j q hj=>?_⟩
    rw [ZiY h2] at hj
    rw [f2 j,Nat.add_zero]
    have hjl:∀ {l:List PV},l[j]?=some q→j<l.length:=fun h=>(List.getElem?_eq_some_iff.1 h).1
    by_cases c:off≤j∧j<off+qs.length
    ·rw [if_pos c] at hj
     obtain ⟨y,y1,y2,y3⟩:=c2 _ q hj
     refine ⟨y,?_,y2,y3⟩
     rw [if_pos ⟨c.1,by rw [Array.length_toList,c1]; exact c.2,by rw [h.1]; omega⟩]
     simpa using y1
    ·rw [if_neg c] at hj
     obtain ⟨y,y1,y2,y3⟩:=h.2 j q hj
     refine ⟨y,?_,y2,y3⟩
     rw [if_neg (by rw [Array.length_toList,c1]; omega)]
     exact y1
   obtain ⟨a',e1,e2⟩:=ZiG ps vs _ cs' _ hnew hf (by simpa using hl) fun j i p hj=>by
    obtain ⟨x,hx,hxr⟩:=hr (j+1) i p (by simpa using hj)
    exact ⟨x,by simpa using hx,hxr⟩
   refine ⟨a',?_,e2⟩
   simp only [Instr.fill,hp,hcond,if_false,Bool.false_eq_true]
   rw [← e1,← e]
  ·cases hf
def Zp5 (P:Program) (t:TypeId):Option Value:=(P.info? t).bind (·.zero)
def pz (P:Program) (t:TypeId):Option (List PV):=(Zp5 P t).bind fun z=>pc (pcst z)
theorem Ziu {t:TypeId} {cs:List PV} (h:pz P t=some cs):∃ i z,P.info? t=some i∧i.zero=some z∧Zd4 w E cs z.cells:=by
 unfold pz Zp5 at h
 cases hi:P.info? t with
 | none=>simp [hi] at h
 | some i=>
  cases hz:i.zero with
  | none=>simp [hi,hz] at h
  | some z=>
   simp only [hi,hz,Option.bind_some] at h
   exact ⟨i,z,rfl,hz,ZlR (ZlS z) h⟩
theorem ZiX {t:TypeId} {i:TypeInfo} {z:Value} (hi:P.info? t=some i) (hz:i.zero=some z) (w':World):(zeroValue t).run P w'=.ok z w':=by
 simp [zeroValue,typeInfo,hi,hz]
def pBuild (P:Program) (T:TypeId) (ps:List (Nat × PV)) (K:PV→Prop):Prop:=
 match P.underlying T with
 | some (.struct fs)=>(∀ fd∈fs.toList,0<P.cellsOf fd.type)∧match pz P T with
  | some zc=>match Zh5 (fun i=>(fs[i]?).map fun fd=>(fd.offset,P.cellsOf fd.type)) zc ps with
   | some cs=>K (.ag cs)
   | none=>False
  | none=>False
 | _=>False
theorem Zd4.ag {cs:List PV} {a:Array Value} (h:Zd4 w E cs a):Rep w E (.ag cs) (.agg a):=by
 refine .ag cs a h.1 (fun j x hx=>?_) fun j p x hp hx=>?_
 ·have hj:j<cs.length:=by rw [← h.1]; exact (Array.getElem?_eq_some_iff.1 hx).1
  obtain ⟨y,h1,h2,_⟩:=h.2 j _ (List.getElem?_eq_getElem hj)
  rw [hx] at h1; cases h1; exact h2
 ·obtain ⟨y,h1,_,h3⟩:=h.2 j p hp
  rw [hx] at h1; cases h1; exact h3
theorem ZmC {fs:Array Field} (h:∀ fd∈fs.toList,0<P.cellsOf fd.type) (w':World):
 (fs.mapM fun (f:Field)=>(do pure (f.offset,← sizeOf f.type):Sem (Nat × Nat))).run P w'=.ok (fs.map fun fd=>(fd.offset,P.cellsOf fd.type)) w':=by
 rw [Array.mapM_eq_mapM_toList]
 have key:∀ l:List Field,(∀ fd∈l,0<P.cellsOf fd.type)→(l.mapM fun (f:Field)=>(do pure (f.offset,← sizeOf f.type):Sem (Nat × Nat))).run P w'=.ok (l.map fun fd=>(fd.offset,P.cellsOf fd.type)) w':=by
  intro l
  induction l with
  | nil=>intro _; simp
  | cons f l ih=>
   intro hl
   obtain ⟨i,hi,hs⟩:=ZbY (hl f (by simp))
   have:=ih fun fd hfd=>hl fd (by simp [hfd])
   simp only [List.mapM_cons,Sem.run_bind,Zbc hi,Result.andThen_ok,Sem.run_pure,this,hs,List.map_cons]
 have k:=key fs.toList h
 rw [Sem.run_map]
 refine (congrArg (fun r=>Result.andThen r fun (a:List (Nat × Nat)) w'=>Result.ok a.toArray w') k).trans ?_
 show Result.ok _ _=_
 congr 1
 exact Array.ext' (by simp)
theorem ZjS {T:TypeId} {ps:List (Nat × PV)} {vs:Array (Nat × Value)} (hl:ps.length=vs.size) (hr:∀ (j i:Nat) (p:PV),ps[j]?=some (i,p)→∃ x,vs[j]?=some (i,x)∧Rep w E p x) {K:PV→Prop} (h:pBuild P T ps K):
 ∃ r v,K r∧(∀ w',(Instr.build T vs).run P w'=.ok v w')∧Rep w E r v:=by
 unfold pBuild at h
 split at h
 ·rename_i fs hu
  obtain ⟨hpos,h⟩:=h
  split at h
  ·rename_i zc hz
   split at h
   ·rename_i cs hf
    obtain ⟨i,z,hi,hz',hc⟩:=Ziu (w:=w) (E:=E) hz
    obtain ⟨a',e1,e2⟩:=ZiG ps vs.toList zc cs z.cells hc hf (by simpa using hl) fun j i p hj=>by simpa using hr j i p hj
    refine ⟨_,.agg a',h,fun w'=>?_,e2.ag⟩
    simp only [Instr.build,Sem.run_bind,ZiX hi hz',run_underlying hu,Result.andThen_ok,ZmC hpos w']
    simp [e1]
   ·exact h.elim
  ·exact h.elim
 ·exact h.elim
end
set_option linter.unusedSimpArgs false
section
variable {w:World} {O:Nat→Prop} {E:Env} {w0:World} {m:Mem} {P:Program}
def Zhf (P:Program) (w0:World) (O:Nat→Prop) (E:Env) (w:World) (ν:Nat) (s:Sem Value) (p:PV) (m':Mem):Prop:=
 ∃ x w' E',s.run P w=.ok x w'∧Ok w0 O E' w' m'∧Ext w w' E E'∧Rep w' E' p x∧∀ l,E'.used l→E.used l∨l=ν
theorem Zje {cs:List PV} {a:Array Value} (h:Zd4 w E cs a) (T:TK):∀ (i:Nat) (ds:List PV) (j:Nat) (p:PV),(MB.mk T cs.length [cs]).es[i]?=some ds→ds[j]?=some p→
 ∃ x,a[i*cs.length+j]?=some x∧x.oneCell'=true∧Rep w E p x:=by
 intro i ds j p hi hj
 cases i with
 | zero=>
  obtain rfl:cs=ds:=by simpa using hi
  simpa using h.2 j p hj
 | succ i=>simp at hi
theorem Zhs (hk:Ok w0 O E w m) {ν:Nat} (hν:¬ E.used ν) {mb:MB} {c:Nat} {a:Array Value} (hkd:mb.T.kd=none) (hpos:0<mb.k) (hn:mb.es.length≤c) (hc:c≤maxLen) (hes:∀ (i:Nat) (cs:List PV),mb.es[i]?=some cs→cs.length=mb.k) (hs:a.size=c*mb.k)
 (hr:∀ (i:Nat) (cs:List PV) (j:Nat) (p:PV),mb.es[i]?=some cs→cs[j]?=some p→∃ x,a[i*mb.k+j]?=some x∧x.oneCell'=true∧Rep w E p x):
 ∃ E',Ok w0 O E' (w.alloc (.cells a mb.T.t (0,0))) (mput m ν mb)∧Ext w (w.alloc (.cells a mb.T.t (0,0))) E E'∧
  Rep (w.alloc (.cells a mb.T.t (0,0))) E' (.ms ν) (.slice (some ⟨w.heap.size,0,none⟩) mb.es.length c)∧
  Rep (w.alloc (.cells a mb.T.t (0,0))) E' (.be ν 0 0) (.pointer (some ⟨w.heap.size,0,none⟩))∧∀ l,E'.used l→E.used l∨l=ν:=by
 have hsz:(w.alloc (.cells a mb.T.t (0,0))).heap.size=w.heap.size+1:=by show (w.heap.push _).size=_; simp
 obtain ⟨h1,h2⟩:=hk.new (w':=w.alloc (.cells a mb.T.t (0,0))) hν mb ⟨w.heap.size,c,mb.es.length,mb.k,mb.T.t,false⟩ rfl rfl rfl (by omega) (fun b hb=>heap_alloc_old _ _ hb) (fun _=>⟨Nat.le_refl _,by simp only; omega⟩)
  fun hx=>⟨rfl,rfl,rfl,hpos,hn,hc,hes,(fun h=>by cases h),fun _=>⟨a,heap_alloc_new w _,hs,fun i cs j p hi hj=>by
   obtain ⟨x,x1,x2,x3⟩:=hr i cs j p hi hj
   exact ⟨x,x1,x2,x3.ext hx⟩⟩,fun T hT=>by rw [hkd] at hT; cases hT⟩
 refine ⟨_,h1,h2,.ms _ _ (.inl rfl) rfl fun B hB=>?_,.be _ _ _ _ (.inl rfl) rfl fun B hB=>?_,fun l hl=>hl.symm⟩
 ·have e:B=⟨w.heap.size,c,mb.es.length,mb.k,mb.T.t,false⟩:=by simpa [Env.add,eq_comm] using hB
  subst e; rfl
 ·have e:B=⟨w.heap.size,c,mb.es.length,mb.k,mb.T.t,false⟩:=by simpa [Env.add,eq_comm] using hB
  subst e; simp
def pBox (ν:Nat) (m:Mem) (T:TypeId) (cs:Option (List PV)) (K:PV→Mem→Prop):Prop:=
 match cs with
 | some (c::cs)=>K (.be ν 0 0) (mput m ν ⟨T,(c::cs).length,[c::cs]⟩)
 | _=>False
theorem Zis (hk:Ok w0 O E w m) {ν:Nat} (hν:¬ E.used ν) {T:TypeId} {cs:List PV} {x:Value} (hc:Zd4 w E cs x.cells) {K:PV→Mem→Prop} (h:pBox ν m T (some cs) K):∃ p m',K p m'∧Zhf P w0 O E w ν (do pure (.pointer (some (← newVar T x)))) p m':=by
 unfold pBox at h
 split at h
 ·rename_i c cs' e
  obtain rfl:cs=c::cs':=by simpa using e
  obtain ⟨E',h1,h2,_,h4,h5⟩:=Zhs (mb:=⟨T,(c::cs').length,[c::cs']⟩) (c:=1) hk hν rfl (by simp) (by simp) (by unfold maxLen; omega) (fun i ds hi=>by
   cases i with
   | zero=>obtain rfl:(c::cs')=ds:=by simpa using hi
           rfl
   | succ i=>simp at hi) (by rw [hc.1]; simp) (Zje hc T)
  exact ⟨_,_,h,.pointer (some ⟨w.heap.size,0,none⟩),_,E',by simp [newVar,newRow],h1,h2,h4,h5⟩
 ·exact h.elim
theorem Zmp (hk:Ok w0 O E w m) {ν:Nat} (hν:¬ E.used ν) {T:TypeId} {p:PV} {x:Value} (hx:Rep w E p x) {K:PV→Mem→Prop} (h:pBox ν m T (pc p) K):∃ p m',K p m'∧Zhf P w0 O E w ν (Instr.box T x) p m':=by
 cases hp:pc p with
 | none=>rw [hp] at h; exact h.elim
 | some cs=>rw [hp] at h; exact Zis hk hν (ZlR hx hp) h
theorem ZjR (hk:Ok w0 O E w m) {ν:Nat} (hν:¬ E.used ν) {T:TypeId} {K:PV→Mem→Prop} (h:pBox ν m T (pz P T) K):∃ p m',K p m'∧Zhf P w0 O E w ν (Instr.alloc T true (.tuple #[])) p m':=by
 cases hp:pz P T with
 | none=>rw [hp] at h; exact h.elim
 | some cs=>
  rw [hp] at h
  obtain ⟨i,z,hi,hz,hc⟩:=Ziu (w:=w) (E:=E) hp
  obtain ⟨p,m',hK,x,w',E',hrun,r⟩:=Zis (P:=P) hk hν hc h
  refine ⟨p,m',hK,x,w',E',?_,r⟩
  simp only [Instr.alloc,Sem.run_bind,ZiX hi hz,Result.andThen_ok]
  exact hrun
def Zh9 (zc:List PV):Nat→List PV
 | 0=>[]
 | n+1=>zc++Zh9 zc n
def Zgv (k:Nat):Nat→List PV→List (List PV)
 | 0,_=>[]
 | n+1,cs=>cs.take k::Zgv k n (cs.drop k)
theorem Zfi (zc:List PV) (n:Nat):(Zh9 zc n).length=n*zc.length:=by
 induction n with
 | zero=>simp [Zh9]
 | succ n ih=>simp only [Zh9,List.length_append,ih,Nat.succ_mul]; omega
theorem Zox {zc:List PV} {n j:Nat} {p:PV} (h:(Zh9 zc n)[j]?=some p):zc[j % zc.length]?=some p:=by
 induction n generalizing j with
 | zero=>simp [Zh9] at h
 | succ n ih=>
  simp only [Zh9] at h
  rcases Nat.lt_or_ge j zc.length with hj | hj
  ·rw [List.getElem?_append_left hj] at h
   rwa [Nat.mod_eq_of_lt hj]
  ·rw [List.getElem?_append_right hj] at h
   have:=ih h
   rwa [Nat.mod_eq_sub_mod hj]
theorem Ze7 (k n:Nat) (cs:List PV):(Zgv k n cs).length=n:=by
 induction n generalizing cs with
 | zero=>rfl
 | succ n ih=>simp [Zgv,ih]
theorem Zjg {k n i:Nat} {cs ds:List PV} (h:(Zgv k n cs)[i]?=some ds):ds=(cs.drop (i*k)).take k:=by
 induction n generalizing cs i with
 | zero=>simp [Zgv] at h
 | succ n ih=>
  cases i with
  | zero=>simpa [Zgv,eq_comm] using h
  | succ i=>
   have:=ih (i:=i) (by simpa [Zgv] using h)
   rw [this,List.drop_drop,Nat.succ_mul,Nat.add_comm]
theorem ZmY {k n:Nat} {cs:List PV} {a:Array Value} (hk:0<k) (h:Zd4 w E cs a) (hl:cs.length=n*k):(∀ (i:Nat) (ds:List PV),(Zgv k n cs)[i]?=some ds→ds.length=k)∧
 ∀ (i:Nat) (ds:List PV) (j:Nat) (p:PV),(Zgv k n cs)[i]?=some ds→ds[j]?=some p→∃ x,a[i*k+j]?=some x∧x.oneCell'=true∧Rep w E p x:=by
 have hlt:∀ {i:Nat} {ds:List PV},(Zgv k n cs)[i]?=some ds→i<n:=fun hi=>by
  have:=(List.getElem?_eq_some_iff.1 hi).1
  rwa [Ze7] at this
 refine ⟨fun i ds hi=>?_,fun i ds j p hi hj=>?_⟩
 ·have hin:=hlt hi
  rw [Zjg hi,List.length_take,List.length_drop,hl]
  have:(i+1)*k≤n*k:=Nat.mul_le_mul_right k hin
  rw [Nat.succ_mul] at this
  omega
 ·rw [Zjg hi,List.getElem?_take] at hj
  split at hj
  ·rw [List.getElem?_drop] at hj
   exact h.2 _ p hj
  ·cases hj
def pBuildSlice (P:Program) (ν:Nat) (m:Mem) (T:TypeId) (n:Nat) (ps:List (Nat × PV)) (K:PV→Mem→Prop):Prop:=
 match P.underlying T with
 | some (.slice e)=>match pz P e with
  | some zc=>0<P.cellsOf e∧zc.length=P.cellsOf e∧n*P.cellsOf e≤16777216∧match Zh5 (fun i=>some (i*P.cellsOf e,P.cellsOf e)) (Zh9 zc n) ps with
   | some cs=>K (.ms ν) (mput m ν ⟨e,P.cellsOf e,Zgv (P.cellsOf e) n cs⟩)
   | none=>False
  | none=>False
 | _=>False
theorem ZgJ {place:Nat→Option (Nat × Nat)}:∀ (ps:List (Nat × PV)) (cs cs':List PV),Zh5 place cs ps=some cs'→cs'.length=cs.length
 | [],cs,cs',h=>by simp only [Zh5,Option.some.injEq] at h; rw [h]
 | (i,p)::ps,cs,cs',h=>by
  simp only [Zh5] at h
  split at h
  ·simp only [Option.ite_none_right_eq_some] at h
   rw [ZgJ ps _ _ h.2,ZfP h.1.2]
  ·cases h
theorem ZgB (hk:Ok w0 O E w m) {ν:Nat} (hν:¬ E.used ν) {T:TypeId} {n:Nat} {ps:List (Nat × PV)} {vs:Array (Nat × Value)} (hl:ps.length=vs.size)
 (hr:∀ (j i:Nat) (p:PV),ps[j]?=some (i,p)→∃ x,vs[j]?=some (i,x)∧Rep w E p x) {K:PV→Mem→Prop} (h:pBuildSlice P ν m T n ps K):∃ p m',K p m'∧Zhf P w0 O E w ν (Instr.buildSlice T n vs) p m':=by
 unfold pBuildSlice at h
 split at h
 ·rename_i e hu
  split at h
  ·rename_i zc hz
   obtain ⟨hpos,hzl,hbig,h⟩:=h
   split at h
   ·rename_i cs hf
    obtain ⟨i,z,hi,hz',hc⟩:=Ziu (w:=w) (E:=E) hz
    have his:i.size=P.cellsOf e:=by simp [Program.cellsOf,hi]
    have h0:Zd4 w E (Zh9 zc n) ((Array.range (n*i.size)).map (z.cells[· % z.cells.size]!)):=by
     refine ⟨by rw [Zfi,hzl,his]; simp,fun j p hj=>?_⟩
     have hjl:=(List.getElem?_eq_some_iff.1 hj).1
     rw [Zfi,hzl] at hjl
     obtain ⟨x,x1,x2,x3⟩:=hc.2 _ p (Zox hj)
     refine ⟨x,?_,x2,x3⟩
     rw [← hc.1] at x1
     have hlt:=(Array.getElem?_eq_some_iff.1 x1).1
     rw [Array.getElem?_map,Array.getElem?_range,if_pos (by rw [his]; exact hjl)]
     simp only [Option.map_some,Option.some.injEq]
     rw [getElem!_pos z.cells _ hlt]
     exact (Array.getElem?_eq_some_iff.1 x1).2
    obtain ⟨a',e1,e2⟩:=ZiG ps vs.toList _ cs _ h0 hf (by simpa using hl) fun j i p hj=>by simpa using hr j i p hj
    have hcl:cs.length=n*P.cellsOf e:=by rw [ZgJ _ _ _ hf,Zfi,hzl]
    obtain ⟨r1,r2⟩:=ZmY hpos e2 hcl
    obtain ⟨E',h1,h2,h3,_,h5⟩:=Zhs (mb:=⟨e,P.cellsOf e,Zgv (P.cellsOf e) n cs⟩) (c:=n) hk hν rfl hpos (by simp [Ze7]) (by
     unfold maxLen
     have:n*1≤n*P.cellsOf e:=Nat.mul_le_mul_left n hpos
     omega) r1 (by rw [e2.1,hcl]) r2
    simp only [Ze7] at h3
    refine ⟨_,_,h,_,_,E',?_,h1,h2,h3,h5⟩
    have e3:Instr.fill (fun j=>some (j*i.size,i.size)) ((Array.range (n*i.size)).map (z.cells[· % z.cells.size]!)) vs.toList=some a':=by rw [← e1,his]
    have hnb:¬ n*i.size > 2 ^ 24:=by rw [his]; omega
    by_cases hn0:n*i.size=0
    ·have e4:(Array.range (n*i.size)).map (z.cells[· % z.cells.size]!)=(Array.range (n*i.size)).map ((#[]:Array Value)[· % (#[]:Array Value).size]!):=by
      rw [hn0]; simp
     rw [e4] at e3
     simp only [Instr.buildSlice,Sem.run_bind,run_underlying hu,Result.andThen_ok,Zbc hi,hnb,if_false,Sem.run_ite,hn0,if_true,Sem.run_pure]
     rw [hn0] at e3
     simp only [e3]
     simp [newRow]
    ·simp only [Instr.buildSlice,Sem.run_bind,run_underlying hu,Result.andThen_ok,Zbc hi,hnb,if_false,Sem.run_ite,hn0,Sem.run_pure,ZiX hi hz',e3]
     simp [newRow]
   ·exact h.elim
  ·exact h.elim
 ·exact h.elim
end
section
variable {w:World} {O:Nat→Prop} {E:Env} {w0:World} {m:Mem} {P:Program}
def pMake (P:Program) (ν:Nat) (m:Mem) (T:TypeId) (l c:PV) (K:PV→Mem→Prop):Prop:=
 match P.underlying T,l,c with
 | some (.slice e),.v (.int .i64 n),.v (.int .i64 n')=>match pz P e with
  | some zc=>n=n'∧0≤n∧0<P.cellsOf e∧zc.length=P.cellsOf e∧n≤1099511627776∧P.bytesOf e*n≤140737488355328∧K (.ms ν) (mput m ν ⟨e,P.cellsOf e,List.replicate n.toNat zc⟩)
  | none=>False
 | _,_,_=>False
theorem ZkN (hk:Ok w0 O E w m) {ν:Nat} (hν:¬ E.used ν) {T:TypeId} {p q:PV} {x y:Value} (hx:Rep w E p x) (hy:Rep w E q y) {K:PV→Mem→Prop} (h:pMake P ν m T p q K):∃ p m',K p m'∧Zhf P w0 O E w ν (Instr.makeSlice T x y) p m':=by
 unfold pMake at h
 split at h
 ·rename_i e n n' hu
  obtain ⟨rfl,_⟩:=hx.v_inv
  obtain ⟨rfl,_⟩:=hy.v_inv
  split at h
  ·rename_i zc hz
   obtain ⟨rfl,h0,hpos,hzl,hbig,hbytes,hK⟩:=h
   obtain ⟨i,z,hi,hz',hc⟩:=Ziu (w:=w) (E:=E) hz
   have his:i.size=P.cellsOf e:=by simp [Program.cellsOf,hi]
   have hib:i.bytes=P.bytesOf e:=by simp [Program.bytesOf,hi]
   obtain ⟨k,rfl⟩:∃ k:Nat,n=(k:Int):=⟨n.toNat,by omega⟩
   have hkb:i.bytes*k≤281474976710656:=by
    rw [hib]
    have:((P.bytesOf e*k:Nat):Int)≤140737488355328:=by rw [Int.natCast_mul]; exact hbytes
    omega
   have hrun:=ZpZ T e i z hu hi hz' k hkb (by omega) w
   have hget:∀ (i:Nat) (cs:List PV),(List.replicate k zc)[i]?=some cs→i<k∧cs=zc:=by
    intro i cs hi
    have hlt:=(List.getElem?_eq_some_iff.1 hi).1
    rw [List.length_replicate] at hlt
    rw [List.getElem?_replicate,if_pos hlt] at hi
    exact ⟨hlt,by simpa [eq_comm] using hi⟩
   obtain ⟨E',h1,h2,h3,_,h5⟩:=Zhs (mb:=⟨e,P.cellsOf e,List.replicate k zc⟩) (c:=k) (a:=madeCells z.cells (k*i.size)) hk hν rfl hpos (by simp) (by unfold maxLen; omega)
    (fun i cs hi=>by rw [(hget i cs hi).2]; exact hzl) (by rw [his]; simp [madeCells]) (fun i' cs j p hi' hj=>by
     obtain ⟨hlt,rfl⟩:=hget i' cs hi'
     obtain ⟨x,x1,x2,x3⟩:=hc.2 j p hj
     refine ⟨x,?_,x2,x3⟩
     have hjl:j<P.cellsOf e:=by rw [← hzl]; exact (List.getElem?_eq_some_iff.1 hj).1
     have hzs:z.cells.size=P.cellsOf e:=by rw [hc.1,hzl]
     have hin:i'*P.cellsOf e+j<k*i.size:=by
      rw [his]
      have:(i'+1)*P.cellsOf e≤k*P.cellsOf e:=Nat.mul_le_mul_right _ hlt
      rw [Nat.succ_mul] at this
      omega
     have hmod:(i'*P.cellsOf e+j) % z.cells.size=j:=by rw [hzs,Nat.add_comm,Nat.add_mul_mod_self_right,Nat.mod_eq_of_lt hjl]
     simp only [madeCells]
     rw [Array.getElem?_map,Array.getElem?_range,if_pos hin]
     simp only [Option.map_some,Option.some.injEq,hmod]
     have hlt':=(Array.getElem?_eq_some_iff.1 x1).1
     rw [getElem!_pos z.cells _ hlt']
     exact (Array.getElem?_eq_some_iff.1 x1).2)
   simp only [List.length_replicate] at h3
   have hK':K (.ms ν) (mput m ν ⟨e,P.cellsOf e,List.replicate k zc⟩):=by simpa using hK
   exact ⟨_,_,hK',_,_,E',hrun,h1,h2,h3,h5⟩
  ·exact h.elim
 ·exact h.elim
def pStore (P:Program) (m:Mem) (T:TypeId) (a x:PV) (K:PV→Mem→Prop):Prop:=
 match a,pc x with
 | .be l i o,some qs=>live m l fun mb=>match mb.es[i]? with
  | some cs=>0<qs.length∧qs.length=P.cellsOf T∧o+qs.length≤cs.length∧K .ud (m.set l (some ⟨mb.T.st qs,mb.k,mb.es.set i (setR cs o qs)⟩))
  | none=>False
 | _,_=>False
theorem Zoe (l vs:List Value) (O:Nat) (h:O+vs.length≤l.length) (j:Nat):(l.take O++vs++l.drop (O+vs.length))[j]?=if O≤j∧j<O+vs.length then vs[j-O]? else l[j]?:=by
 have hl:(l.take O).length=O:=by rw [List.length_take]; omega
 rw [List.append_assoc]
 rcases Nat.lt_or_ge j O with h1 | h1
 ·rw [List.getElem?_append_left (by omega),List.getElem?_take_of_lt h1,if_neg (by omega)]
 ·rw [List.getElem?_append_right (by omega),hl]
  rcases Nat.lt_or_ge j (O+vs.length) with h2 | h2
  ·rw [List.getElem?_append_left (by omega),if_pos ⟨h1,h2⟩]
  ·rw [List.getElem?_append_right (by omega),List.getElem?_drop,if_neg (by omega)]
   congr 1; omega
theorem ZjZ (hk:Ok w0 O E w m) {T:TypeId} {p q:PV} {x y:Value} (hx:Rep w E p x) (hy:Rep w E q y) {K:PV→Mem→Prop} (h:pStore P m T p q K):
 ∃ m',K .ud m'∧∃ w',(Instr.storeAt T x y).run P w=.ok () w'∧Ok w0 O E w' m'∧Ext w w' E E:=by
 unfold pStore at h
 split at h
 ·rename_i l i o qs hq
  obtain ⟨mb,hm,h⟩:=Zb4 h
  split at h
  ·rename_i cs hcs
   obtain ⟨hpos,hT,hle,hK⟩:=h
   obtain ⟨B,hB,hb,hz,rfl⟩:=hx.be_inv hk hm
   obtain ⟨c1,c2⟩:=ZlR hy hq
   obtain ⟨ti,hti,hts⟩:=ZbY (P:=P) (t:=T) (by omega)
   obtain ⟨cells,m1,m2,m3⟩:=hb.mem hz
   have hcl:=hb.es i cs hcs
   have hin:i<B.n:=by rw [hb.n]; exact (List.getElem?_eq_some_iff.1 hcs).1
   have hfit:i*B.k+B.k≤B.c*B.k:=by
    have:(i+1)*B.k≤B.c*B.k:=Nat.mul_le_mul_right _ (Nat.le_trans hin hb.nc)
    rwa [Nat.succ_mul] at this
   have hone:∀ v∈y.cells.toList,v.oneCell'=true:=by
    intro v hv
    obtain ⟨j,hj⟩:=List.getElem?_of_mem hv
    have hjl:j<qs.length:=by
     have:=(List.getElem?_eq_some_iff.1 hj).1
     rw [Array.length_toList,c1] at this
     exact this
    obtain ⟨z,z1,z2,_⟩:=c2 j _ (List.getElem?_eq_getElem hjl)
    rw [Array.getElem?_toList,z1] at hj
    cases hj
    exact z2
   have hst:=run_storeCells_at P B.b (i*B.k+o) B.T y.cells.toList 0 cells w m1 (by rw [Array.length_toList,c1,m2]; omega) hone
   refine ⟨_,hK,w.setRow B.b (cells.toList.take (i*B.k+o+0)++y.cells.toList++cells.toList.drop (i*B.k+o+0+y.cells.toList.length)).toArray,?_,?_⟩
   ·have hsz:¬ y.cells.size≠ti.size:=by rw [c1,hT,hts]; simp
    simp only [Instr.storeAt,Instr.sureAddr,storeVar,Sem.run_bind,Sem.run_pure,Result.andThen_ok,Zbc hti,hsz,if_false]
    exact hst
   ·refine hk.put hB hz _ rfl rfl rfl (by simp [World.setRow]) (fun b hne=>setRow_other w B.b b _ hne) fun hx'=>?_
    ·have hll:(setR cs o qs).length=cs.length:=ZfP hle
     refine ⟨hb.k,by rw [hb.n]; simp,by rw [hb.T]; exact (TK.st_t _ _).symm,hb.pos,hb.nc,hb.cm,fun i' cs' hi'=>?_,fun h=>(by rw [hz] at h; cases h),fun _=>⟨_,setRow_heap w B.b cells _ B.T _ m1,?_,fun i' cs' j pp hi' hj=>?_⟩,fun T1 hT1 _ i' cs' j es x hi' hj hne hc=>?_⟩
     ·simp only at hi'
      by_cases e:i'=i
      ·subst e
       rw [List.getElem?_set_self (List.getElem?_eq_some_iff.1 hcs).1] at hi'
       simp only [Option.some.injEq] at hi'
       rw [← hi',hll]; exact hcl
      ·rw [List.getElem?_set_ne (Ne.symm e)] at hi'
       exact hb.es i' cs' hi'
     ·have h1:y.cells.toList.length=qs.length:=by rw [Array.length_toList,c1]
      simp only [List.size_toArray,List.length_append,List.length_take,List.length_drop,Array.length_toList,m2]
      rw [← c1] at hle
      omega
     ·simp only at hi'
      have h1:y.cells.toList.length=qs.length:=by rw [Array.length_toList,c1]
      have hsg:=fun t=>Zoe cells.toList y.cells.toList (i*B.k+o+0) (by simp only [Array.length_toList,c1,m2]; omega) t
      by_cases e:i'=i
      ·subst e
       rw [List.getElem?_set_self (List.getElem?_eq_some_iff.1 hcs).1] at hi'
       simp only [Option.some.injEq] at hi'
       subst hi'
       rw [ZiY hle] at hj
       by_cases c:o≤j∧j<o+qs.length
       ·rw [if_pos c] at hj
        obtain ⟨z,z1,z2,z3⟩:=c2 _ pp hj
        refine ⟨z,?_,z2,z3.ext hx'⟩
        rw [List.getElem?_toArray,hsg,if_pos (by rw [h1]; omega)]
        rw [Array.getElem?_toList,← z1]
        congr 1; omega
       ·rw [if_neg c] at hj
        obtain ⟨z,z1,z2,z3⟩:=m3 i' cs j pp hcs hj
        refine ⟨z,?_,z2,z3.ext hx'⟩
        rw [List.getElem?_toArray,hsg,if_neg (by rw [h1]; omega),Array.getElem?_toList]
        exact z1
      ·rw [List.getElem?_set_ne (Ne.symm e)] at hi'
       obtain ⟨z,z1,z2,z3⟩:=m3 i' cs' j pp hi' hj
       refine ⟨z,?_,z2,z3.ext hx'⟩
       have hjl:j<B.k:=by rw [← hb.es i' cs' hi']; exact (List.getElem?_eq_some_iff.1 hj).1
       rw [List.getElem?_toArray,hsg,if_neg ?_,Array.getElem?_toList]
       ·exact z1
       ·rw [h1]
        intro ⟨g1,g2⟩
        rcases Nat.lt_or_gt_of_ne e with hlt | hgt
        ·have:(i'+1)*B.k≤i*B.k:=Nat.mul_le_mul_right _ hlt
         rw [Nat.succ_mul] at this
         omega
        ·have:(i+1)*B.k≤i'*B.k:=Nat.mul_le_mul_right _ hgt
         rw [Nat.succ_mul] at this
         omega
     ·simp only at hi'
      obtain ⟨hk1,hns⟩:=TK.stb_kd hT1
      have h1:y.cells.toList.length=qs.length:=by rw [Array.length_toList,c1]
      have hsg:=fun t=>Zoe cells.toList y.cells.toList (i*B.k+o+0) (by simp only [Array.length_toList,c1,m2]; omega) t
      rw [cell_of_row _ B.b _ _ B.T (0,0) (setRow_heap w B.b cells _ B.T _ m1),List.getElem?_toArray,hsg] at hc
      have old:∀ cs1,mb.es[i']?=some cs1→cs1[j]?=some (.sl es)→¬ (i*B.k+o+0≤i'*B.k+j∧i'*B.k+j<i*B.k+o+0+y.cells.toList.length)→Zma (w.setRow B.b (cells.toList.take (i*B.k+o+0)++y.cells.toList++cells.toList.drop (i*B.k+o+0+y.cells.toList.length)).toArray) E T1 ((mb.T.st qs).t,i',j) es x:=by
       intro cs1 g1 g2 g3
       rw [if_neg g3,Array.getElem?_toList] at hc
       rw [TK.st_t]
       exact (hb.key T1 hk1 hz i' cs1 j es x g1 g2 hne (by rw [cell_of_row w B.b _ cells B.T (0,0) m1]; exact hc)).ext hx'
      by_cases e:i'=i
      ·subst e
       rw [List.getElem?_set_self (List.getElem?_eq_some_iff.1 hcs).1] at hi'
       simp only [Option.some.injEq] at hi'
       subst hi'
       rw [ZiY hle] at hj
       by_cases c:o≤j∧j<o+qs.length
       ·rw [if_pos c] at hj
        exact absurd (ZkG hns hj) hne
       ·rw [if_neg c] at hj
        exact old cs hcs hj (by rw [h1]; omega)
      ·rw [List.getElem?_set_ne (Ne.symm e)] at hi'
       have hjl:j<B.k:=by rw [← hb.es i' cs' hi']; exact (List.getElem?_eq_some_iff.1 hj).1
       refine old cs' hi' hj ?_
       rw [h1]
       intro ⟨g1,g2⟩
       rcases Nat.lt_or_gt_of_ne e with hlt | hgt
       ·have:(i'+1)*B.k≤i*B.k:=Nat.mul_le_mul_right _ hlt
        rw [Nat.succ_mul] at this
        omega
       ·have:(i+1)*B.k≤i'*B.k:=Nat.mul_le_mul_right _ hgt
        rw [Nat.succ_mul] at this
        omega
  ·exact h.elim
 ·exact h.elim
end
end Go.Proofs.YtmcdjilbkmhfoaaGreat
