/- A part of the proof of the statement in the last file of this claim: texts on the language of the program and on its functions. No condition. -/
import Derived.WalkKit
import Derived.WalkSpells
import Derived.WalkLawsBesides
import Derived.Below
import Derived.Lib.Hide
import Derived.Outline
import Derived.Laws.OwnMore
import Derived.Maps.AppendAt
import Derived.Deep.Draws
import Derived.Deep.QuietTactic
import Derived.BigQuiet
import Derived.Laws.StructEq
import Derived.Deep.DeepCutAuto
import Derived.StillTailTactics
set_option linter.unusedVariables false
set_option linter.unusedSimpArgs false
set_option linter.unusedSectionVars false
namespace Go.Proofs.YtbalgkakkoocjaaGreat
open List renaming length_append→V2,length_cons→VX,getElem?_eq_some_iff→VU,getElem?_append_left→Wd,getElem?_append_right→We,take_add_one→Yc,getElem?_eq_getElem→VT,getElem?_take→WN,all_eq_true→V5,mem_of_getElem?→VW,length_take→V8,replicate→WA,getElem?_set_self→Wl,getElem?_set_ne→Wt,getElem?_eq_none→Wy,getElem?_replicate→XO,length_set→WL,getD→W0,getElem?_drop→WE,ofFn→XP,getElem?_take_of_lt→WR,length_drop→WK,append_assoc→Xb,length_replicate→Xz,getElem?_toArray→Xv
open Nat renaming add_mul→W6,add_comm→Yn,zero_mul→Yg,zero_add→Wb,succ_mul→WX,add_assoc→Xu,le_refl→V3,le_trans→Wq,lt_of_lt_of_le→Xa,lt_or_ge→WB,zero_le→WV,mul_le_mul_right→Wu
open _root_.Array renaming getElem?_eq_some_iff→V6,getElem?_eq_getElem→V9,getElem?_extract→XQ,length_toList→Wk,range→Yl,getElem?_map→X6,getElem?_toList→Wh
open Option renaming map_eq_some_iff→Ww,ite_none_right_eq_some→W1,ite_none_left_eq_some→Yk,bind_some→VS,map_some→Wr
open BitVec renaming ofInt→Wn
open Option.some renaming injEq→V1
set_option maxRecDepth 10000
open Go.RowKit
variable {Bh Bi:Option Value}{T t:TypeId}{a b:World}{c i j k l n off ν:Nat}{d:TypeDesc}{op:BinOp}{v x y:Value}{ys:List Value}
abbrev I(n:Int):Value:=.int .i64 n
class dT(α:Type) where
 cells:α→List Value
 k:Nat
 len:∀x,(cells x).length=k
 pos:0<k
 one:∀x,∀u∈cells x,u.oneCell'=true
instance:dT Int where
 cells x:=[I x]
 k:=1
 len _:=rfl
 pos:=by decide
 one:=by simp[Value.oneCell',I]
def flat{α:Type}[dT α](xs:List α):List Value:=xs.flatMap dT.cells
section flat
variable {α:Type} [dT α]
theorem tN(x:α)(xs:List α):flat (x::xs)=dT.cells x++flat xs:=rfl
theorem IN(xs ys:List α):flat (xs++ys)=flat xs++flat ys:=by simp[flat]
theorem Q1(x:α):flat [x]=dT.cells x:=by simp[flat]
theorem nZ(xs:List α):(flat xs).length=xs.length*dT.k α:=by
 induction xs with
 |nil=>simp[flat]
 |cons x xs ih=>rw[tN,V2,ih,dT.len,VX,W6,Nat.one_mul,Yn]
theorem Gd(xs:List α):∀u∈flat xs,u.oneCell'=true:=by
 intro u hu
 obtain⟨x,_,hx⟩:=List.mem_flatMap.1 hu
 exact dT.one x u hx
theorem uy{xs:List α}{x:α}(hx:xs[i]?=some x){u:Value}(hu:(dT.cells x)[j]?=some u):(flat xs)[i*dT.k α+j]?=some u:=by
 induction xs generalizing i with
 |nil=>simp at hx
 |cons y ys ih=>
  have hl:=dT.len (α:=α) y
  cases i with
  |zero=>
   obtain rfl:y=x:=by simpa using hx
   have hj:j<(dT.cells y).length:=(VU.1 hu).1
   rw[tN,Yg,Wb,Wd hj,hu]
  |succ i=>
   have h1:=ih (i:=i) (by simpa using hx)
   rw[tN,We (by rw[hl,WX];omega),←h1]
   congr 1
   rw[hl,WX];omega
end flat
def Rd{α:Type}[dT α](w:World)(B:Nat)(A:Option Addr)(xs:List α):Prop:=
 xs≠[]→∃b off,A=some ⟨b,off,none⟩∧b<B∧∀j u,(flat xs)[j]?=some u→w.cell? ⟨b,off+j,none⟩=some u
section rd
variable {α:Type} [dT α] {w w':World} {B B':Nat} {A:Option Addr} {xs:List α}
theorem Rd.U2:Rd w B A ([]:List α):=fun h=>absurd rfl h
theorem Rd.aO{x:α}(h:Rd w B A xs)(hx:xs[i]?=some x):
 ∃b off,A=some ⟨b,off,none⟩∧b<B∧∀j u,(dT.cells x)[j]?=some u→w.cell? ⟨b,off+i*dT.k α+j,none⟩=some u:=by
 obtain⟨b,off,e,hb,hc⟩:=h (by rintro rfl;simp at hx)
 exact⟨b,off,e,hb,fun j u hu=>by rw[Xu];exact hc _ u (uy hx hu)⟩
theorem Rd.UL(h:Rd w B A xs)(hk:∀b o,b<B→w'.cell? ⟨b,o,none⟩=w.cell? ⟨b,o,none⟩):Rd w' B A xs:=fun hn=>by
 obtain⟨b,off,e,hb,hc⟩:=h hn
 exact⟨b,off,e,hb,fun j u hu=>(hk _ _ hb).trans (hc j u hu)⟩
theorem Rd.more(h:Rd w B A xs)(hB:B≤B'):Rd w B' A xs:=fun hn=>by
 obtain⟨b,off,e,hb,hc⟩:=h hn
 exact⟨b,off,e,by omega,hc⟩
theorem Rd.below(h:Rd w B A xs)(hb:Below B w w'):Rd w' B A xs:=h.UL fun b o hp=>hb.cell (p:=⟨b,o,none⟩) hp
end rd
def Own{α:Type}[dT α](w:World)(B:Nat)(E:TypeId)(v:Value)(xs:List α):Prop:=w.ownsRow B E (dT.k α) v xs.length (flat xs)
theorem PA{α:Type}{xs:List α}{x:α}(hx:xs[i]?=some x):xs.take (i+1)=xs.take i++[x]:=by
 rw[Yc,hx];rfl
theorem Oh{α:Type}{xs:List α}(h:i<xs.length):∃x,xs[i]?=some x:=⟨xs[i],VT h⟩
theorem Fa{α:Type}{xs:List α}{x:α}(hx:xs[i]?=some x):i<xs.length:=(VU.1 hx).1
theorem KW{α β:Type}{xs:List α}{x:α}(hx:xs[i]?=some x)(f:β→α→β)(a:β):(xs.take (i+1)).foldl f a=f ((xs.take i).foldl f a) x:=by
 rw[PA hx,List.foldl_append];rfl
theorem Below.next{B:Nat}{a b c:World}(h:Below B a b)(k:Below b.heap.size b c)(hB:B≤b.heap.size):Below B a c:=h.trans (k.mono hB)
abbrev Up(w w':World):Prop:=Below w.heap.size w w'
theorem Up.rfl'(w:World):Up w w:=Below.refl _ _
theorem Up.step{a b c:World}(k:Up b c)(h:Up a b):Up a c:=Below.trans h (Below.mono k h.size)
theorem Up.al(o:Obj)(h:Up a b):Up a (b.alloc o):=Below.alloc h h.size o
theorem Up.sc{p:Addr}(h:Up a b)(hp:a.heap.size≤p.block)(u:Value):Up a (b.setCell p u):=Below.setCell h hp u
theorem Up.dr(n:Nat)(h:Up a b):Up a (b.drewN n):=⟨h.os,h.tape,h.output,h.size,h.block⟩
theorem Up.xY(h:Up a b):Up a b.drew:=Below.drew h
theorem Rd.up{α:Type}[dT α]{w w':World}{A:Option Addr}{xs:List α}(h:Rd w w.heap.size A xs)(hb:Up w w'):Rd w' w'.heap.size A xs:=(h.below hb).more hb.size
theorem Own.rd{α:Type}[dT α]{w:World}{B E:Nat}{A:Option Addr}{xs:List α}(h:Own w B E (.slice A n c) xs):Rd w w.heap.size A xs:=by
 intro iw
 have gz:0<xs.length:=List.length_pos_iff.2 iw
 rcases h.2 with⟨_,h0⟩ |⟨g,cap,cur,hv,hB,hg,wU,IZ,qF,ht⟩
 ·omega
 ·have hA:A=some ⟨g,0,none⟩:=by injection hv
  refine⟨g,0,hA,(V6.1 hg).1,fun j u hu=>?_⟩
  rw[Wb,cell_of_row w g j cur E (0,0) hg]
  rw[←ht,WN]at hu
  split at hu
  ·simpa using hu
  ·cases hu
theorem Own.up{α:Type}[dT α]{w w':World}{B E:Nat}{xs:List α}(h:Own w B E v xs)(hb:Up w w'):Own w' B E v xs:=by
 refine⟨h.1,?_⟩
 rcases h.2 with h2|⟨g,cap,cur,hv,hB,hg,r⟩
 ·exact .inl h2
 ·exact .inr ⟨g,cap,cur,hv,hB,(hb.block g (V6.1 hg).1).trans hg,r⟩
def yd(n:Nat)(f:Nat→Bool):Bool:=(List.range n).all f
theorem tD{f:Nat→Bool}:yd n f=true↔∀i,i<n→f i=true:=by simp[yd]
theorem run_mk{P:Program}(t e:TypeId)(i:TypeInfo)(z:Value)(ht:P.underlying t=some (.slice e))(hi:P.info? e=some i)(hz:i.zero=some z)
 (n:Nat) (mg:i.bytes*n≤281474976710656) (h63:n≤9223372036854775807) (w:World):
 (Instr.makeSlice t (.int .i64 (n:Int)) (.int .i64 (n:Int))).run P w=.ok (.slice (some ⟨w.heap.size,0,none⟩) n n) (w.alloc (.cells (madeCells z.cells (n*i.size)) e)):=by
 have hb:(i.bytes:Int)*(n:Int)≤281474976710656:=by
  have h:((i.bytes*n:Nat):Int)≤281474976710656:=by omega
  rwa[Int.natCast_mul]at h
 have hr:=run_make (P:=P) w t e i z ht hi hz .i64 .i64 n n (by omega) (by omega) hb (by omega)
 simp only[Int.toNat_natCast]at hr
 exact hr
def l0(w:World)(B:Nat)(E:TypeId)(k:Nat)(g n i:Nat)(ys:List Value):Prop:=
 ∃cs:Array Value,w.heap[g]?=some (.cells cs E (0,0))∧B≤g∧cs.size=n*k∧n≤maxLen∧cs.toList.take (i*k)=ys.take (i*k)
theorem l0.start(w:World)(B E k n:Nat)(z:Array Value)(ys:List Value)(hB:B≤w.heap.size)(hn:n≤maxLen):
 l0 (w.alloc (.cells (madeCells z (n*k)) E)) B E k w.heap.size n 0 ys:=
 ⟨_,heap_alloc_new w _,hB,by simp[madeCells],hn,by simp⟩
theorem l0.cell{w:World}{B E k g n i:Nat}(h:l0 w B E k g n i ys)(hj:j<n*k):∃u,w.cell? ⟨g,j,none⟩=some u:=by
 obtain⟨cs,hh,_,hs,_⟩:=h
 exact⟨cs[j]'(by omega),by rw[cell_of_row w g j cs E (0,0) hh];exact V9 _⟩
theorem l0.frozen{w:World}{B E k g n i:Nat}(h:l0 w B E k g n i ys)(j:Nat):w.frozen? ⟨g,j,none⟩=false:=by
 obtain⟨cs,hh,_⟩:=h
 exact frozen_of_row w g j cs E hh
theorem l0.kept{w w':World}{B E k g n i:Nat}(h:l0 w B E k g n i ys)(hb:Below w.heap.size w w'):l0 w' B E k g n i ys:=by
 obtain⟨cs,hh,r⟩:=h
 exact⟨cs,(hb.block g (V6.1 hh).1).trans hh,r⟩
theorem l0.lt{w:World}{B E k g n i:Nat}(h:l0 w B E k g n i ys):B≤g∧g<w.heap.size:=by
 obtain⟨cs,hh,hB,_⟩:=h
 exact⟨hB,(V6.1 hh).1⟩
theorem l0.own{α:Type}[dT α]{w:World}{B E g n:Nat}{ys:List α}(h:l0 w B E (dT.k α) g n n (flat ys))(hn:ys.length=n):
 Own w B E (.slice (some ⟨g,0,none⟩) n n) ys:=by
 obtain⟨cs,hh,hB,hs,hm,ht⟩:=h
 subst hn
 have e1:(flat ys).take (ys.length*dT.k α)=flat ys:=List.take_of_length_le (by rw[nZ];omega)
 exact⟨nZ ys,.inr ⟨g,_,cs,rfl,hB,hh,V3 _,hm,hs,by rw[ht,e1]⟩⟩
theorem SL{cs:List Value}{j m:Nat}(v:Value)(h:m≤j):(cs.set j v).take m=cs.take m:=by
 rw[List.take_set_of_le h]
theorem xj{cs ys:List Value}(hj:j<cs.length)(hy:ys[j]?=some v)(h:cs.take j=ys.take j):(cs.set j v).take (j+1)=ys.take (j+1):=by
 rw[Yc,Yc,hy,SL v (V3 _),h]
 simp[hj]
theorem l0.ZfD{w:World}{B E g n i:Nat}(h:l0 w B E 1 g n i ys)(hi:i<n)(hy:ys[i]?=some v):
 l0 (w.setCell ⟨g,i,none⟩ v) B E 1 g n (i+1) ys:=by
 obtain⟨cs,hh,hB,hs,hm,ht⟩:=h
 refine⟨cs.setIfInBounds i v,heap_setCell_same w g i cs E v hh,hB,by simpa using hs,hm,?_⟩
 rw[Nat.mul_one]at ht
 rw[Nat.mul_one,Array.toList_setIfInBounds]
 exact xj (by simp;omega) hy ht
def ZaG(_:World):Prop:=True
theorem ZdP(w:World):ZaG w:=trivial
def HY(w:World)(O:Nat→Prop):Prop:=∃T:Nat→Prop,(∀b,T b→b<w.heap.size∧¬O b)∧∀w':World,(∀b,T b→w'.heap[b]?=w.heap[b]?)→ZaG w'
theorem HY.of{w:World}{O:Nat→Prop}(h:∀w:World,ZaG w):HY w O:=⟨fun _=>False,fun _ h=>h.elim,fun w' _=>h w'⟩
theorem tab0{w:World}{O:Nat→Prop}:HY w O:=.of ZdP
inductive PV where
 |v (x:Value)
 |ud
 |un
 |sl (es:List (List PV))
 |rp (cs:List PV)
 |ms (l:Nat)
 |ss (l a b:Nat)
 |be (l i o:Nat)
 |ag (cs:List PV)
 |tu (vs:List PV)
 |fn (f:FuncId) (cs:List PV)
instance:Inhabited PV:=⟨.un⟩
structure TK where
 t:TypeId
 kd:Option TypeId
def TK.of(n:TypeId):TK:=⟨n,none⟩
instance:Coe TypeId TK:=⟨TK.of⟩
@[simp] theorem TK.t_n(n:Nat):(TK.of n).t=n:=rfl
@[simp] theorem TK.Zgx(n:Nat):(TK.of n).kd=none:=rfl
def OU:PV→Bool
 |.sl (_::_)=>false
 |_=>true
def TK.stb(T:TK)(b:Bool):TK:=match T.kd with
 |none=>T
 |some _=>if b=true then T else⟨T.t,none⟩
def TK.st(T:TK)(qs:List PV):TK:=T.stb (qs.all OU)
def TK.P0(T:TK)(es:List (List PV)):TK:=T.stb (es.all fun qs=>qs.all OU)
@[simp] theorem TK.ZgC(n:Nat)(qs:List PV):(TK.of n).st qs=TK.of n:=rfl
@[simp] theorem TK.ZfR(n:Nat)(es:List (List PV)):(TK.of n).P0 es=TK.of n:=rfl
theorem TK.Zaz(T:TK)(b:Bool):(T.stb b).t=T.t:=by
 unfold TK.stb
 split
 ·rfl
 ·split<;>rfl
theorem TK.ZdO(T:TK)(qs:List PV):(T.st qs).t=T.t:=T.Zaz _
theorem TK.Ka(T:TK)(es:List (List PV)):(T.P0 es).t=T.t:=T.Zaz _
theorem TK.SX{T:TK}{b:Bool}{T':TypeId}(h:(T.stb b).kd=some T'):T.kd=some T'∧b=true:=by
 unfold TK.stb at h
 split at h
 ·rename_i e;rw[e]at h;cases h
 ·split at h
  ·exact⟨h,by assumption⟩
  ·cases h
theorem GF{qs:List PV}(h:qs.all OU=true){es:List (List PV)}(hj:qs[j]?=some (.sl es)):es=[]:=by
 have:=V5.1 h _ (VW hj)
 cases es with
 |nil=>rfl
 |cons a l=>cases this
structure MB where
 T:TK
 k:Nat
 es:List (List PV)
abbrev Mem:=List (Option MB)
inductive fA(w:World)(S:Nat→Prop):PV→Value→Prop
 |v (x:Value) (h:x.oneCell'=true):fA w S (.v x) x
 |ud:fA w S .ud undef
 |un (x:Value):fA w S .un x
 |nil (A:Option Addr) (c:Nat):fA w S (.sl []) (.slice A 0 c)
 |sl (es:List (List PV)) (b off k c:Nat) (u:Nat→Nat→Value) (hS:S b) (hk:0<k) (hn:es.length≤c) (hm:c≤maxLen)
  (xx:∀(i:Nat) (cs:List PV),es[i]?=some cs→cs.length=k)
  (hc:∀(i:Nat) (cs:List PV) (j:Nat) (p:PV),es[i]?=some cs→cs[j]?=some p→w.cell? ⟨b,off+i*k+j,none⟩=some (u i j))
  (h1:∀(i:Nat) (cs:List PV) (j:Nat) (p:PV),es[i]?=some cs→cs[j]?=some p→(u i j).oneCell'=true)
  (hr:∀(i:Nat) (cs:List PV) (j:Nat) (p:PV),es[i]?=some cs→cs[j]?=some p→fA w S p (u i j)):fA w S (.sl es) (.slice (some ⟨b,off,none⟩) es.length c)
 |rp (cs:List PV) (b off:Nat) (u:Nat→Value) (hS:S b)
  (hc:∀(j:Nat) (p:PV),cs[j]?=some p→w.cell? ⟨b,off+j,none⟩=some (u j))
  (h1:∀(j:Nat) (p:PV),cs[j]?=some p→(u j).oneCell'=true)
  (hr:∀(j:Nat) (p:PV),cs[j]?=some p→fA w S p (u j)):fA w S (.rp cs) (.pointer (some ⟨b,off,none⟩))
 |fn (f:FuncId) (cs:List PV) (vs:Array Value) (hl:vs.size=cs.length)
  (hr:∀(j:Nat) (p:PV) (x:Value),cs[j]?=some p→vs[j]?=some x→fA w S p x):fA w S (.fn f cs) (.func (.func f) #[] vs)
structure qa where
 b:Nat
 c:Nat
 n:Nat
 k:Nat
 T:TypeId
 z:Bool
def qa.sv(B:qa):Value:=if B.z then .slice none 0 0 else .slice (some ⟨B.b,0,none⟩) B.n B.c
abbrev Key:=Nat×Nat×Nat
structure Env where
 S:Nat→Prop
 β:Nat→Option qa
 used:Nat→Prop
 ω:Nat→Key→Prop
inductive dL(w:World)(E:Env):PV→Value→Prop
 |c {p:PV} {x:Value} (h:fA w E.S p x):dL w E p x
 |ms (l:Nat) (x:Value) (hl:E.used l) (h1:x.oneCell'=true) (h:∀B,E.β l=some B→x=B.sv):dL w E (.ms l) x
 |ss (l a b:Nat) (x:Value) (hl:E.used l) (h1:x.oneCell'=true) (h:∀B,E.β l=some B→(∃A c,x=.slice A (b-a) c∧a≤b∧b≤B.n∧(a<b→B.z=false∧A=some ⟨B.b,a*B.k,none⟩∧b-a≤c∧c≤maxLen))∧(a=0→B.z=false→∃n,x=.slice (some ⟨B.b,0,none⟩) n B.c)):dL w E (.ss l a b) x
 |be (l i o:Nat) (x:Value) (hl:E.used l) (h1:x.oneCell'=true) (h:∀B,E.β l=some B→B.z=false∧x=.pointer (some ⟨B.b,i*B.k+o,none⟩)):dL w E (.be l i o) x
 |ag (cs:List PV) (vs:Array Value) (hl:vs.size=cs.length) (h1:∀(j:Nat) (x:Value),vs[j]?=some x→x.oneCell'=true)
  (hr:∀(j:Nat) (p:PV) (x:Value),cs[j]?=some p→vs[j]?=some x→dL w E p x):dL w E (.ag cs) (.agg vs)
 |tu (ps:List PV) (vs:Array Value) (hl:vs.size=ps.length)
  (hr:∀(j:Nat) (p:PV) (x:Value),ps[j]?=some p→vs[j]?=some x→dL w E p x):dL w E (.tu ps) (.tuple vs)
 |fn (f:FuncId) (cs:List PV) (vs:Array Value) (hl:vs.size=cs.length)
  (hr:∀(j:Nat) (p:PV) (x:Value),cs[j]?=some p→vs[j]?=some x→dL w E p x):dL w E (.fn f cs) (.func (.func f) #[] vs)
def nL(β:Nat→Option qa)(b:Nat):Prop:=∃l B,β l=some B∧B.z=false∧B.b=b
structure Ext(w w':World)(E E':Env):Prop where
 S:∀b,E.S b→E'.S b
 cell:∀b o,E.S b→w'.cell? ⟨b,o,none⟩=w.cell? ⟨b,o,none⟩
 β:∀l B,E.used l→E'.β l=some B→E.β l=some B
 used:∀l,E.used l→E'.used l
 S':∀b,E'.S b→E.S b∨w.heap.size≤b∨nL E.β b
 own:∀b,nL E'.β b→nL E.β b∨w.heap.size≤b
 size:w.heap.size≤w'.heap.size
 ω:∀b k,E.ω b k→E'.ω b k∧w'.heap[b]?=w.heap[b]?
 ω':∀b k,E'.ω b k→E.ω b k∨w.heap.size≤b∨nL E.β b
theorem Ext.refl(w:World)(E:Env):Ext w w E E:=⟨fun _ h=>h,fun _ _ _=>rfl,fun _ _ _ h=>h,fun _ h=>h,fun _ h=>.inl h,fun _ h=>.inl h,V3 _,fun _ _ h=>⟨h,rfl⟩,fun _ _ h=>.inl h⟩
theorem Ext.trans{w w1 w2:World}{E E1 E2:Env}(h:Ext w w1 E E1)(k:Ext w1 w2 E1 E2):Ext w w2 E E2:=
 ⟨fun b hb=>k.S b (h.S b hb),fun b o hb=>(k.cell b o (h.S b hb)).trans (h.cell b o hb),fun l B hl hB=>h.β l B hl (k.β l B (h.used l hl) hB),fun l hl=>k.used l (h.used l hl),
  fun b hb=>by
   rcases k.S' b hb with h1|h1|h1
   ·exact h.S' b h1
   ·exact .inr (.inl (Wq h.size h1))
   ·rcases h.own b h1 with h2|h2
    ·exact .inr (.inr h2)
    ·exact .inr (.inl h2),fun b hb=>by
   rcases k.own b hb with h1|h1
   ·exact h.own b h1
   ·exact .inr (Wq h.size h1),Wq h.size k.size,fun b q hq=>⟨(k.ω b q (h.ω b q hq).1).1,(k.ω b q (h.ω b q hq).1).2.trans (h.ω b q hq).2⟩,fun b q hq=>by
   rcases k.ω' b q hq with h1|h1|h1
   ·exact h.ω' b q h1
   ·exact .inr (.inl (Wq h.size h1))
   ·rcases h.own b h1 with h2|h2
    ·exact .inr (.inr h2)
    ·exact .inr (.inl h2)⟩
theorem fA.ext{w w':World}{S S':Nat→Prop}(hS:∀b,S b→S' b)(hc:∀b o,S b→w'.cell? ⟨b,o,none⟩=w.cell? ⟨b,o,none⟩){p:PV}(h:fA w S p x):fA w' S' p x:=by
 induction h with
 |v x h=>exact .v x h
 |ud=>exact .ud
 |un x=>exact .un x
 |nil A c=>exact .nil A c
 |sl es b off k c u hSb hk hn hm xx zH h1 hr ih=>
  exact .sl es b off k c u (hS b hSb) hk hn hm xx (fun i cs j p h h'=>(hc _ _ hSb).trans (zH i cs j p h h')) h1 ih
 |rp cs b off u hSb zH h1 hr ih=>
  exact .rp cs b off u (hS b hSb) (fun j p h=>(hc _ _ hSb).trans (zH j p h)) h1 ih
 |fn f cs vs hl hr ih=>exact .fn f cs vs hl ih
theorem dL.ext{w w':World}{E E':Env}(hx:Ext w w' E E'){p:PV}{x:Value}(h:dL w E p x):dL w' E' p x:=by
 induction h with
 |c h=>exact .c (h.ext hx.S hx.cell)
 |ms l x hl h1 h=>exact .ms l x (hx.used l hl) h1 fun B hB=>h B (hx.β l B hl hB)
 |ss l a b x hl h1 h=>exact .ss l a b x (hx.used l hl) h1 fun B hB=>h B (hx.β l B hl hB)
 |be l i o x hl h1 h=>exact .be l i o x (hx.used l hl) h1 fun B hB=>h B (hx.β l B hl hB)
 |ag cs vs hl h1 hr ih=>exact .ag cs vs hl h1 ih
 |tu ps vs hl hr ih=>exact .tu ps vs hl ih
 |fn f cs vs hl hr ih=>exact .fn f cs vs hl ih
def HQ(w:World)(E:Env)(T:TypeId)(q:Key)(es:List (List PV))(x:Value):Prop:=
 ∃b c k cs,x=.slice (some ⟨b,0,none⟩) es.length c∧E.ω b q∧w.heap[b]?=some (.cells cs T (0,0))∧cs.size=c*k∧0<k∧es.length≤c∧c≤maxLen∧∀e∈es,e.length=k
theorem HQ.ext{w w':World}{E E':Env}{q:Key}{es:List (List PV)}(h:HQ w E T q es x)(hx:Ext w w' E E'):HQ w' E' T q es x:=by
 obtain⟨b,c,k,cs,h1,h2,h3,h4⟩:=h
 exact⟨b,c,k,cs,h1,(hx.ω b q h2).1,(hx.ω b q h2).2.trans h3,h4⟩
theorem dL.same{w:World}{E E':Env}(hS:∀b,E.S b→E'.S b)(xF:∀l B,E.used l→E'.β l=some B→E.β l=some B)(hu:∀l,E.used l→E'.used l){p:PV}(h:dL w E p x):dL w E' p x:=by
 induction h with
 |c h=>exact .c (h.ext hS fun _ _ _=>rfl)
 |ms l x hl h1 h=>exact .ms l x (hu l hl) h1 fun B hB=>h B (xF l B hl hB)
 |ss l a b x hl h1 h=>exact .ss l a b x (hu l hl) h1 fun B hB=>h B (xF l B hl hB)
 |be l i o x hl h1 h=>exact .be l i o x (hu l hl) h1 fun B hB=>h B (xF l B hl hB)
 |ag cs vs hl h1 hr ih=>exact .ag cs vs hl h1 ih
 |tu cs vs hl hr ih=>exact .tu cs vs hl ih
 |fn f cs vs hl hr ih=>exact .fn f cs vs hl ih
structure gb(w:World)(E:Env)(mb:MB)(B:qa):Prop where
 k:B.k=mb.k
 n:B.n=mb.es.length
 T:B.T=mb.T.t
 pos:0<B.k
 nc:B.n≤B.c
 cm:B.c≤maxLen
 es:∀(i:Nat) (cs:List PV),mb.es[i]?=some cs→cs.length=B.k
 nil:B.z=true→mb.es=[]
 mem:B.z=false→∃cells:Array Value,w.heap[B.b]?=some (.cells cells B.T (0,0))∧cells.size=B.c*B.k∧
  ∀(i:Nat) (cs:List PV) (j:Nat) (p:PV),mb.es[i]?=some cs→cs[j]?=some p→∃x,cells[i*B.k+j]?=some x∧x.oneCell'=true∧dL w E p x
 key:∀T,mb.T.kd=some T→B.z=false→∀(i:Nat) (cs:List PV) (j:Nat) (es:List (List PV)) (x:Value),mb.es[i]?=some cs→cs[j]?=some (.sl es)→es≠[]→w.cell? ⟨B.b,i*B.k+j,none⟩=some x→HQ w E T (mb.T.t,i,j) es x
theorem gb.ZbK{w:World}{E:Env}{T T':TK}{es:List (List PV)}{B:qa}(h:gb w E ⟨T,k,es⟩ B)(ht:T'.t=T.t)(hq:∀T1,T'.kd=some T1→∀cs∈es,cs.all OU=true):gb w E ⟨T',k,es⟩ B:=
 ⟨h.k,h.n,h.T.trans ht.symm,h.pos,h.nc,h.cm,h.es,h.nil,h.mem,fun T1 hT _ i cs j tA x hi hj iw _=>absurd (GF (hq T1 hT cs (VW hi)) hj) iw⟩
theorem gb.part{w:World}{E:Env}{mb:MB}{B:qa}(h:gb w E mb B){b:Nat}(hb:b≤B.n):gb w E ⟨mb.T,mb.k,mb.es.take b⟩ ⟨B.b,B.c,b,B.k,B.T,B.z⟩:=by
 have get:∀{i:Nat} {cs:List PV},(mb.es.take b)[i]?=some cs→mb.es[i]?=some cs:=fun hi=>by
  rw[WN]at hi
  split at hi
  ·exact hi
  ·cases hi
 refine⟨h.k,?_,h.T,h.pos,Wq hb h.nc,h.cm,fun i cs hi=>h.es i cs (get hi),fun hz=>?_,fun hz=>?_,fun T hT hz i cs j es x hi hj iw hc=>h.key T hT hz i cs j es x (get hi) hj iw hc⟩
 ·rw[V8,Nat.min_eq_left (by rw[←h.n];exact hb)]
 ·show mb.es.take b=[]
  rw[h.nil hz,List.take_nil]
 ·obtain⟨cells,m1,m2,m3⟩:=h.mem hz
  exact⟨cells,m1,m2,fun i cs j p hi hj=>m3 i cs j p (get hi) hj⟩
theorem Hn{T:TK}{es:List (List PV)}{T1:TypeId}(h:(T.P0 es).kd=some T1):T.kd=some T1∧∀cs∈es,cs.all OU=true:=by
 obtain⟨h1,h2⟩:=TK.SX h
 exact⟨h1,fun cs qF=>V5.1 h2 cs qF⟩
theorem gb.Zak{w:World}{E:Env}{mb:MB}{B:qa}(h:gb w E mb B)(hi:0<mb.es.length):B.z=false:=by
 cases hz:B.z with
 |false=>rfl
 |true=>rw[h.nil hz]at hi;cases hi
structure FX(O:Nat→Prop)(w0 w:World):Prop where
 os:w.os=w0.os
 tape:w.tape=w0.tape
 output:w.output=w0.output
 size:w0.heap.size≤w.heap.size
 block:∀b,b<w0.heap.size→¬O b→w.heap[b]?=w0.heap[b]?
theorem FX.refl(O:Nat→Prop)(w:World):FX O w w:=⟨rfl,rfl,rfl,V3 _,fun _ _ _=>rfl⟩
theorem FX.trans{O O':Nat→Prop}{a b c:World}(h:FX O a b)(k:FX O' b c)(hO:∀x,x<a.heap.size→O' x→O x):FX O a c:=
 ⟨k.os.trans h.os,k.tape.trans h.tape,k.output.trans h.output,Wq h.size k.size,fun x hx hn=>(k.block x (Xa hx h.size) fun h'=>hn (hO x hx h')).trans (h.block x hx hn)⟩
theorem FX.none{w w':World}(h:FX (fun _=>False) w w'):Up w w':=⟨h.os,h.tape,h.output,h.size,fun b hb=>h.block b hb fun h=>h⟩
structure Ok(w0:World)(O:Nat→Prop)(E:Env)(w:World)(m:Mem):Prop where
 up:FX O w0 w
 sz:∀b,E.S b→b<w.heap.size
 own:∀l B,E.β l=some B→B.z=false→(O B.b∨w0.heap.size≤B.b)∧B.b<w.heap.size∧¬E.S B.b
 inj:∀l l' B B',E.β l=some B→E.β l'=some B'→B.z=false→B'.z=false→B.b=B'.b→l=l'
 used:∀l,E.used l→l<m.length
 bu:∀l B,E.β l=some B→E.used l
 mem:∀l mb,m[l]?=some (some mb)→∃B,E.β l=some B∧gb w E mb B
 dom:∀l B,E.β l=some B→∃mb,m[l]?=some (some mb)
 Tm:HY w0 O
 ow:∀b q,E.ω b q→E.S b∧∀q',E.ω b q'→q'=q
theorem Ok.ZfG{w0:World}{O:Nat→Prop}{E:Env}{w:World}{m:Mem}(h:Ok w0 O E w m){O':Nat→Prop}(hO:∀b,O' b→O b∨w0.heap.size≤b):HY w O':=by
 obtain⟨T,h1,h2⟩:=h.Tm
 refine⟨T,fun b hb=>⟨Xa (h1 b hb).1 h.up.size,fun ho=>?_⟩,fun w' Uz=>h2 w' fun b hb=>(Uz b hb).trans (h.up.block b (h1 b hb).1 (h1 b hb).2)⟩
 rcases hO b ho with h3|h3
 ·exact(h1 b hb).2 h3
 ·have:=(h1 b hb).1;omega
theorem cell_of_heap{w w':World}{b o:Nat}(h:w'.heap[b]?=w.heap[b]?):w'.cell? ⟨b,o,none⟩=w.cell? ⟨b,o,none⟩:=by simp[World.cell?,h]
theorem gb.ext{w w':World}{E E':Env}{mb:MB}{B:qa}(h:gb w E mb B)(hx:Ext w w' E E')(hh:B.z=false→w'.heap[B.b]?=w.heap[B.b]?):gb w' E' mb B:=by
 refine⟨h.k,h.n,h.T,h.pos,h.nc,h.cm,h.es,h.nil,fun hz=>?_,fun T hT hz i cs j es x hi hj iw hc=>(h.key T hT hz i cs j es x hi hj iw (by rw[←cell_of_heap (hh hz)];exact hc)).ext hx⟩
 obtain⟨cells,h1,h2,h3⟩:=h.mem hz
 exact⟨cells,(hh hz).trans h1,h2,fun i cs j p e e'=>by
  obtain⟨x,a,b,c⟩:=h3 i cs j p e e'
  exact⟨x,a,b,c.ext hx⟩⟩
def nV(m:Mem)(ν:Nat)(mb:MB):Mem:=(m++WA (ν+1-m.length) none).set ν (some mb)
theorem CX(m:Mem)(ν:Nat)(mb:MB):(nV m ν mb).length=max m.length (ν+1):=by simp[nV];omega
theorem ua(m:Mem)(ν:Nat)(mb:MB):(nV m ν mb)[ν]?=some (some mb):=by
 unfold nV
 rw[Wl]
 simp;omega
theorem yT{m:Mem}{mb nW:MB}(h:l≠ν):(nV m ν mb)[l]?=some (some nW)↔m[l]?=some (some nW):=by
 unfold nV
 rw[Wt (fun e=>h e.symm)]
 rcases WB l m.length with h1|h1
 ·rw[Wd h1]
 ·rw[We h1,Wy h1,XO]
  split<;>simp
def Env.add(E:Env)(ν:Nat)(B:qa):Env:={ S:=E.S,β:=fun l'=>if l'=ν then some B else E.β l',used:=fun l=>l=ν∨E.used l,ω:=E.ω}
theorem Ok.new{w0 w w':World}{O:Nat→Prop}{E:Env}{m:Mem}(h:Ok w0 O E w m){ν:Nat}(vz:¬E.used ν)(mb:MB)(B:qa)
 (hos:w'.os=w.os) (I4:w'.tape=w.tape) (I3:w'.output=w.output) (yB:w.heap.size≤w'.heap.size) (hh:∀b,b<w.heap.size→w'.heap[b]?=w.heap[b]?)
 (hB:B.z=false→w.heap.size≤B.b∧B.b<w'.heap.size) (hb:Ext w w' E (E.add ν B)→gb w' (E.add ν B) mb B):
 Ok w0 O (E.add ν B) w' (nV m ν mb)∧Ext w w' E (E.add ν B):=by
 have xL:∀{l:Nat} {B':qa},(E.add ν B).β l=some B'→l≠ν→E.β l=some B':=fun kL hl=>by simpa[Env.add,hl]using kL
 have new:∀{B':qa},(E.add ν B).β ν=some B'→B'=B:=fun kL=>by simpa[Env.add,eq_comm]using kL
 have hx:Ext w w' E (E.add ν B):=by
  refine⟨fun _ hb=>hb,fun b o hb=>cell_of_heap (hh b (h.sz b hb)),fun l B' hl kL=>xL kL (fun e=>vz (e▸hl)),fun l hl=>.inr hl,fun _ hb=>.inl hb,?_,yB,fun b q hq=>⟨hq,hh b (h.sz b (h.ow b q hq).1)⟩,fun _ _ h=>.inl h⟩
  rintro b ⟨l,B',kL,hz,rfl⟩
  by_cases hl:l=ν
  ·subst hl
   obtain rfl:=new kL
   exact .inr (hB hz).1
  ·exact .inl ⟨l,B',xL kL hl,hz,rfl⟩
 refine⟨⟨⟨hos.trans h.up.os,I4.trans h.up.tape,I3.trans h.up.output,Wq h.up.size yB,fun k hk hn=>(hh k (by have:=h.up.size;omega)).trans (h.up.block k hk hn)⟩,
  fun b hb=>by have:=h.sz b hb;omega,?_,?_,?_,?_,?_,?_,h.Tm,h.ow⟩,hx⟩
 ·intro l B' kL hz
  by_cases hl:l=ν
  ·subst hl
   obtain rfl:=new kL
   obtain⟨b1,b2⟩:=hB hz
   exact⟨.inr (by have:=h.up.size;omega),b2,fun hS=>by have:=h.sz _ hS;omega⟩
  ·obtain⟨a,b,d⟩:=h.own l B' (xL kL hl) hz
   exact⟨a,by omega,d⟩
 ·intro l l' B1 B2 h1 h2 z1 z2 e
  by_cases hl:l=ν<;>by_cases AA:l'=ν
  ·rw[hl,AA]
  ·subst hl
   obtain rfl:=new h1
   have:=(h.own l' B2 (xL h2 AA) z2).2.1
   have:=(hB z1).1
   omega
  ·subst AA
   obtain rfl:=new h2
   have:=(h.own l B1 (xL h1 hl) z1).2.1
   have:=(hB z2).1
   omega
  ·exact h.inj l l' B1 B2 (xL h1 hl) (xL h2 AA) z1 z2 e
 ·intro l hl
  rw[CX]
  rcases hl with rfl|hl
  ·omega
  ·have:=h.used l hl;omega
 ·intro l B' kL
  by_cases hl:l=ν
  ·exact .inl hl
  ·exact .inr (h.bu l B' (xL kL hl))
 ·intro l nW xA
  by_cases hl:l=ν
  ·subst hl
   rw[ua]at xA
   obtain rfl:mb=nW:=by simpa using xA
   exact⟨B,by simp[Env.add],hb hx⟩
  ·rw[yT hl]at xA
   obtain⟨B',kL,uX⟩:=h.mem l nW xA
   exact⟨B',by simpa[Env.add,hl]using kL,uX.ext hx fun hz=>hh _ (h.own l B' kL hz).2.1⟩
 ·intro l B' kL
  by_cases hl:l=ν
  ·subst hl;exact⟨mb,ua _ _ _⟩
  ·obtain⟨nW,xA⟩:=h.dom l B' (xL kL hl)
   exact⟨nW,(yT hl).2 xA⟩
theorem Ok.put{w0 w w':World}{O:Nat→Prop}{E:Env}{m:Mem}(h:Ok w0 O E w m){B:qa}(hB:E.β l=some B)(hz:B.z=false)(mb:MB)
 (hos:w'.os=w.os) (I4:w'.tape=w.tape) (I3:w'.output=w.output) (yB:w'.heap.size=w.heap.size) (hh:∀b,b≠B.b→w'.heap[b]?=w.heap[b]?)
 (hb:Ext w w' E E→gb w' E mb B):Ok w0 O E w' (m.set l (some mb))∧Ext w w' E E:=by
 obtain⟨o1,o2,o3⟩:=h.own l B hB hz
 have hx:Ext w w' E E:=⟨fun _ hb=>hb,fun b o hb=>cell_of_heap (hh b (fun e=>o3 (e▸hb))),fun _ _ _ h=>h,fun _ h=>h,fun _ hb=>.inl hb,fun _ hb=>.inl hb,by omega,fun b q hq=>⟨hq,hh b (fun e=>o3 (e▸(h.ow b q hq).1))⟩,fun _ _ h=>.inl h⟩
 have DV:l<m.length:=h.used l (h.bu l B hB)
 refine⟨⟨⟨hos.trans h.up.os,I4.trans h.up.tape,I3.trans h.up.output,by rw[yB];exact h.up.size,fun k hk hn=>(hh k (fun e=>by
  rcases o1 with o1|o1
  ·exact hn (e▸o1)
  ·omega)).trans (h.up.block k hk hn)⟩,
  fun b hb=>by rw[yB];exact h.sz b hb,fun l' B' kL tT=>by rw[yB];exact h.own l' B' kL tT,h.inj,fun l' AA=>by rw[WL];exact h.used l' AA,h.bu,?_,?_,h.Tm,h.ow⟩,hx⟩
 ·intro l' nW xA
  by_cases hl:l'=l
  ·subst hl
   rw[Wl DV]at xA
   obtain rfl:mb=nW:=by simpa using xA
   exact⟨B,hB,hb hx⟩
  ·rw[Wt (fun e=>hl e.symm)]at xA
   obtain⟨B',kL,uX⟩:=h.mem l' nW xA
   exact⟨B',kL,uX.ext hx fun tT=>hh _ (fun e=>hl (h.inj l' l B' B kL hB tT hz e))⟩
 ·intro l' B' kL
  by_cases hl:l'=l
  ·subst hl;exact⟨mb,Wl DV⟩
  ·obtain⟨nW,xA⟩:=h.dom l' B' kL
   exact⟨nW,by rw[Wt (fun e=>hl e.symm)];exact xA⟩
def Env.move(E:Env)(l ν:Nat)(B:qa):Env:={ S:=E.S,β:=fun i=>if i=ν then some B else if i=l then none else E.β i,used:=fun i=>i=ν∨E.used i,ω:=E.ω}
theorem Ok.move{w0 w w':World}{O:Nat→Prop}{E:Env}{m:Mem}(h:Ok w0 O E w m){ν:Nat}(vz:¬E.used ν){l:Nat}{B:qa}(hB:E.β l=some B)(mb:MB)(B':qa)
 (hos:w'.os=w.os) (I4:w'.tape=w.tape) (I3:w'.output=w.output) (yB:w.heap.size≤w'.heap.size) (hh:∀b,b<w.heap.size→(B.z=false→b≠B.b)→w'.heap[b]?=w.heap[b]?)
 (kL:B'.z=false→(B.z=false∧B'.b=B.b)∨w.heap.size≤B'.b) (bF:B'.z=false→B'.b<w'.heap.size) (hb:Ext w w' E (E.move l ν B')→gb w' (E.move l ν B') mb B'):
 Ok w0 O (E.move l ν B') w' (nV (m.set l none) ν mb)∧Ext w w' E (E.move l ν B'):=by
 have hlu:=h.bu l B hB
 have DV:l<m.length:=h.used l hlu
 have iw:l≠ν:=fun e=>vz (e▸hlu)
 have xL:∀{i:Nat} {B1:qa},(E.move l ν B').β i=some B1→i≠ν→i≠l∧E.β i=some B1:=by
  intro i B1 u0 hi
  simp only[Env.move,hi,if_false]at u0
  split at u0
  ·cases u0
  ·exact⟨by assumption,u0⟩
 have new:∀{B1:qa},(E.move l ν B').β ν=some B1→B1=B':=fun u0=>by simpa[Env.move,eq_comm]using u0
 have EY:∀b,E.S b→w'.heap[b]?=w.heap[b]?:=fun b hb=>hh b (h.sz b hb) (fun hz e=>(h.own l B hB hz).2.2 (e▸hb))
 have hx:Ext w w' E (E.move l ν B'):=
  ⟨fun _ hb=>hb,fun b o hb=>cell_of_heap (EY b hb),fun i B1 hi u0=>(xL u0 (fun e=>vz (e▸hi))).2,fun _ hl=>.inr hl,fun _ hb=>.inl hb,fun b ho=>by
   obtain⟨i,B1,u0,hz,rfl⟩:=ho
   by_cases hi:i=ν
   ·subst hi
    obtain rfl:=new u0
    rcases kL hz with⟨e1,e'⟩ |e'
    ·exact .inl ⟨l,B,hB,e1,e'.symm⟩
    ·exact .inr e'
   ·exact .inl ⟨i,B1,(xL u0 hi).2,hz,rfl⟩,yB,fun b q hq=>⟨hq,EY b (h.ow b q hq).1⟩,fun _ _ h=>.inl h⟩
 have apart:∀i B1,E.β i=some B1→i≠l→B1.z=false→B'.z=false→B1.b≠B'.b:=by
  intro i B1 u0 hi hz tT e
  rcases kL tT with⟨e1,e'⟩ |e'
  ·exact hi (h.inj i l B1 B u0 hB hz e1 (e.trans e'))
  ·have:=(h.own i B1 u0 hz).2.1;omega
 refine⟨⟨⟨hos.trans h.up.os,I4.trans h.up.tape,I3.trans h.up.output,Wq h.up.size yB,fun k hk hn=>(hh k (by have:=h.up.size;omega) (fun hz e=>by
  rcases(h.own l B hB hz).1 with o1|o1
  ·exact hn (e▸o1)
  ·omega)).trans (h.up.block k hk hn)⟩,
  fun b hb=>by have:=h.sz b hb;omega,?_,?_,?_,?_,?_,?_,h.Tm,h.ow⟩,hx⟩
 ·intro i B1 u0 hz
  by_cases hi:i=ν
  ·subst hi
   obtain rfl:=new u0
   refine⟨?_,bF hz,?_⟩
   ·rcases kL hz with⟨e1,e'⟩ |e'
    ·rw[e'];exact(h.own l B hB e1).1
    ·exact .inr (by have:=h.up.size;omega)
   ·intro hS
    rcases kL hz with⟨e1,e'⟩ |e'
    ·rw[e']at hS;exact(h.own l B hB e1).2.2 hS
    ·have:=h.sz _ hS;omega
  ·obtain⟨_,h2⟩:=xL u0 hi
   obtain⟨a,b,d⟩:=h.own i B1 h2 hz
   exact⟨a,by omega,d⟩
 ·intro i i' B1 B2 h1 h2 z1 z2 e
  by_cases hi:i=ν<;>by_cases lV:i'=ν
  ·rw[hi,lV]
  ·subst hi
   obtain rfl:=new h1
   obtain⟨h3,h4⟩:=xL h2 lV
   exact absurd e.symm (apart i' B2 h4 h3 z2 z1)
  ·subst lV
   obtain rfl:=new h2
   obtain⟨h3,h4⟩:=xL h1 hi
   exact absurd e (apart i B1 h4 h3 z1 z2)
  ·exact h.inj i i' B1 B2 (xL h1 hi).2 (xL h2 lV).2 z1 z2 e
 ·intro i hi
  rw[CX,WL]
  rcases hi with rfl|hi
  ·omega
  ·have:=h.used i hi;omega
 ·intro i B1 u0
  by_cases hi:i=ν
  ·exact .inl hi
  ·exact .inr (h.bu i B1 (xL u0 hi).2)
 ·intro i nW xA
  by_cases hi:i=ν
  ·subst hi
   rw[ua]at xA
   have e:mb=nW:=by simpa using xA
   subst e
   exact⟨B',by simp[Env.move],hb hx⟩
  ·rw[yT hi]at xA
   have x5:i≠l:=by
    rintro rfl
    rw[Wl DV]at xA
    simp at xA
   rw[Wt (fun e=>x5 e.symm)]at xA
   obtain⟨B1,u0,uY⟩:=h.mem i nW xA
   refine⟨B1,by simp[Env.move,hi,x5,u0],uY.ext hx fun hz=>hh _ (h.own i B1 u0 hz).2.1 (fun tT e=>x5 (h.inj i l B1 B u0 hB hz tT e))⟩
 ·intro i B1 u0
  by_cases hi:i=ν
  ·subst hi;exact⟨mb,ua _ _ _⟩
  ·obtain⟨h3,h4⟩:=xL u0 hi
   obtain⟨nW,xA⟩:=h.dom i B1 h4
   refine⟨nW,(yT hi).2 ?_⟩
   rw[Wt (fun e=>h3 e.symm)]
   exact xA
theorem Ok.drew{w0 w:World}{O:Nat→Prop}{E:Env}{m:Mem}(h:Ok w0 O E w m)(n:Nat):Ok w0 O E (w.drewN n) m∧Ext w (w.drewN n) E E:=by
 have hx:Ext w (w.drewN n) E E:=⟨fun _ h=>h,fun _ _ _=>rfl,fun _ _ _ h=>h,fun _ h=>h,fun _ h=>.inl h,fun _ h=>.inl h,V3 _,fun _ _ h=>⟨h,rfl⟩,fun _ _ h=>.inl h⟩
 exact⟨⟨⟨h.up.os,h.up.tape,h.up.output,h.up.size,h.up.block⟩,h.sz,h.own,h.inj,h.used,h.bu,fun l mb hm=>by obtain⟨B,hB,hb⟩:=h.mem l mb hm;exact⟨B,hB,hb.ext hx fun _=>rfl⟩,h.dom,h.Tm,h.ow⟩,hx⟩
def Qk(cs:Array Value):Bool:=cs.toList.all (·.oneCell')
def Vd:Value→PV
 |.agg cs=>if Qk cs then .ag (cs.toList.map .v)else .un
 |.tuple _=>.un
 |x=>.v x
def fX(t:List PV):Operand→PV
 |.tmp i=>t.getD i .un
 |.const x=>Vd x
 |.func f=>.v (.func (.func f) #[] #[])
 |.global _=>.un
def rE(w:World)(E:Env)(t:List PV)(tm:Array Value):Prop:=tm.size=t.length∧∀i p,t[i]?=some p→dL w E p (tm.getD i undef)
section
variable {w:World} {O:Nat→Prop} {E:Env} {w0:World} {m:Mem}
theorem dL.un'(x:Value):dL w E .un x:=.c (.un x)
theorem dL.iG{a x:Value}(h:dL w E (.v a) x):x=a∧a.oneCell'=true:=by
 cases h with
 |c h=>cases h with|v _ h=>exact⟨rfl,h⟩
theorem dL.vR{es:List (List PV)}(h:dL w E (.sl es) x):fA w E.S (.sl es) x:=by cases h with|c h=>exact h
theorem dL.L1{cs:List PV}(h:dL w E (.rp cs) x):fA w E.S (.rp cs) x:=by cases h with|c h=>exact h
theorem dL.qg{cs:List PV}(h:dL w E (.ag cs) x):∃vs:Array Value,x=.agg vs∧vs.size=cs.length∧(∀(j:Nat) (x:Value),vs[j]?=some x→x.oneCell'=true)∧∀(j:Nat) (p:PV) (x:Value),cs[j]?=some p→vs[j]?=some x→dL w E p x:=by
 cases h with
 |c h=>cases h
 |ag _ vs hl h1 hr=>exact⟨vs,rfl,hl,h1,hr⟩
theorem dL.xV{ps:List PV}(h:dL w E (.tu ps) x):∃vs:Array Value,x=.tuple vs∧vs.size=ps.length∧∀(j:Nat) (p:PV) (x:Value),ps[j]?=some p→vs[j]?=some x→dL w E p x:=by
 cases h with
 |c h=>cases h
 |tu _ vs hl hr=>exact⟨vs,rfl,hl,hr⟩
theorem dL.sI(hk:Ok w0 O E w m){mb:MB}(hm:m[l]?=some (some mb))(h:dL w E (.ms l) x):∃B,E.β l=some B∧gb w E mb B∧x=B.sv:=by
 obtain⟨B,hB,hb⟩:=hk.mem l mb hm
 cases h with
 |c h=>cases h
 |ms _ _ _ _ h=>exact⟨B,hB,hb,h B hB⟩
theorem dL.Al(hk:Ok w0 O E w m){l a b:Nat}{mb:MB}(hm:m[l]?=some (some mb))(h:dL w E (.ss l a b) x):∃B,E.β l=some B∧gb w E mb B∧
 ∃A c,x=.slice A (b-a) c∧a≤b∧b≤B.n∧(a<b→B.z=false∧A=some ⟨B.b,a*B.k,none⟩∧b-a≤c∧c≤maxLen):=by
 obtain⟨B,hB,hb⟩:=hk.mem l mb hm
 cases h with
 |c h=>cases h
 |ss _ _ _ _ _ _ h=>exact⟨B,hB,hb,(h B hB).1⟩
theorem dL.Nu(hk:Ok w0 O E w m){l b:Nat}{mb:MB}(hm:m[l]?=some (some mb))(h:dL w E (.ss l 0 b) x):∃B,E.β l=some B∧gb w E mb B∧b≤B.n∧(B.z=false→x=.slice (some ⟨B.b,0,none⟩) b B.c)∧∃A c,x=.slice A b c:=by
 obtain⟨B,hB,hb⟩:=hk.mem l mb hm
 cases h with
 |c h=>cases h
 |ss _ _ _ _ _ _ h=>
  obtain⟨⟨A,c,rfl,_,h2,_⟩,h0⟩:=h B hB
  refine⟨B,hB,hb,h2,fun hz=>?_,_,_,rfl⟩
  obtain⟨n,e⟩:=h0 rfl hz
  cases e
  rfl
theorem dL.BY(hk:Ok w0 O E w m){l i o:Nat}{mb:MB}(hm:m[l]?=some (some mb))(h:dL w E (.be l i o) x):∃B,E.β l=some B∧gb w E mb B∧B.z=false∧x=.pointer (some ⟨B.b,i*B.k+o,none⟩):=by
 obtain⟨B,hB,hb⟩:=hk.mem l mb hm
 cases h with
 |c h=>cases h
 |be _ _ _ _ _ _ h=>exact⟨B,hB,hb,h B hB⟩
theorem dL.Ge{f:FuncId}{cs:List PV}(h:dL w E (.fn f cs) x):∃vs:Array Value,x=.func (.func f) #[] vs∧vs.size=cs.length∧∀(j:Nat) (p:PV) (x:Value),cs[j]?=some p→vs[j]?=some x→dL w E p x:=by
 cases h with
 |c h=>cases h with
  |fn _ _ vs hl hr=>exact⟨vs,rfl,hl,fun j p x hp hx=>.c (hr j p x hp hx)⟩
 |fn _ _ vs hl hr=>exact⟨vs,rfl,hl,hr⟩
theorem lU(hk:Ok w0 O E w m){mb:MB}(hm:m[l]?=some (some mb)):E.used l:=by
 obtain⟨B,hB,_⟩:=hk.mem l mb hm
 exact hk.bu l B hB
theorem JA(x:Value):dL w E (Vd x) x:=by
 unfold Vd
 split
 ·rename_i cs
  split
  ·rename_i h
   have tt:∀v∈cs.toList,v.oneCell'=true:=by simp only[Qk,V5]at h;exact h
   refine .ag _ _ (by simp) (fun j x hx=>tt x (by simpa using Array.mem_of_getElem? hx)) fun j p x hp hx=>?_
   have e:p=.v x:=by simpa[hx,eq_comm]using hp
   subst e
   exact .c (.v x (tt x (by simpa using Array.mem_of_getElem? hx)))
  ·exact .un' _
 ·exact .un' _
 ·rename_i h1 h2
  refine .c (.v x ?_)
  cases x<;>simp_all[Value.oneCell']
theorem yt{t:List PV}{a:Act}(h:rE w E t a.tmps)(o:Operand):dL w E (fX t o) (a.eval o):=by
 cases o with
 |tmp i=>
  simp only[fX,Act.eval]
  rcases WB i t.length with hi|hi
  ·have:=h.2 i _ (VT hi)
   simpa[W0,VT hi]using this
  ·have e:t.getD i .un=.un:=by simp[W0,Wy hi]
   rw[e];exact .un' _
 |const x=>exact JA x
 |global g=>exact .un' _
 |func f=>exact .c (.v _ rfl)
def pc:PV→Option (List PV)
 |.ag cs=>some cs
 |.v x=>some [.v x]
 |.sl es=>some [.sl es]
 |.rp cs=>some [.rp cs]
 |.ms l=>some [.ms l]
 |.ss l a b=>some [.ss l a b]
 |.be l i o=>some [.be l i o]
 |.fn f cs=>some [.fn f cs]
 |_=>none
theorem cells_one(h:x.oneCell'=true):x.cells=#[x]:=by cases x<;>simp_all[Value.oneCell',Value.cells]
theorem fA.one{S:Nat→Prop}{p:PV}(h:fA w S p x)(h1:p≠.ud)(h2:p≠.un):x.oneCell'=true:=by
 cases h<;>first|rfl|assumption|contradiction
theorem GX{p:PV}(h:dL w E p x){cs:List PV}(hp:pc p=some cs):x.cells.size=cs.length∧∀(j:Nat) (q:PV),cs[j]?=some q→∃y,x.cells[j]?=some y∧y.oneCell'=true∧dL w E q y:=by
 have one:x.oneCell'=true→cs=[p]→x.cells.size=cs.length∧∀(j:Nat) (q:PV),cs[j]?=some q→∃y,x.cells[j]?=some y∧y.oneCell'=true∧dL w E q y:=by
  intro h1 e
  subst e
  rw[cells_one h1]
  refine⟨rfl,fun j q hq=>?_⟩
  cases j with
  |zero=>obtain rfl:p=q:=by simpa using hq
         exact⟨x,rfl,h1,h⟩
  |succ j=>simp at hq
 cases h with
 |c h=>
  cases h with
  |v _ h1=>exact one h1 (by simpa[pc,eq_comm]using hp)
  |ud=>simp[pc]at hp
  |un=>simp[pc]at hp
  |nil A c=>exact one rfl (by simpa[pc,eq_comm]using hp)
  |sl=>exact one rfl (by simpa[pc,eq_comm]using hp)
  |rp=>exact one rfl (by simpa[pc,eq_comm]using hp)
  |fn=>exact one rfl (by simpa[pc,eq_comm]using hp)
 |ms l _ hl h1=>exact one h1 (by simpa[pc,eq_comm]using hp)
 |ss l a b _ hl h1=>exact one h1 (by simpa[pc,eq_comm]using hp)
 |fn=>exact one rfl (by simpa[pc,eq_comm]using hp)
 |be l i o _ hl h1=>exact one h1 (by simpa[pc,eq_comm]using hp)
 |ag pS vs hl h1 hr=>
  obtain rfl:pS=cs:=by simpa[pc]using hp
  refine⟨hl,fun j q hq=>?_⟩
  have hj:j<vs.size:=by rw[hl];exact(VU.1 hq).1
  exact⟨vs[j],V9 hj,h1 j _ (V9 hj),hr j q _ hq (V9 hj)⟩
 |tu=>simp[pc]at hp
def Kv(m:Mem):PV→Option (List PV)
 |.be l i o=>match m[l]? with
  |some (some mb)=>(mb.es[i]?).map (·.drop o)
  |_=>none
 |.rp cs=>some cs
 |_=>none
theorem Ni(hk:Ok w0 O E w m){p:PV}(h:dL w E p x){cs:List PV}(hp:Kv m p=some cs):
 ∃b off,x=.pointer (some ⟨b,off,none⟩)∧b<w.heap.size∧∀(j:Nat) (q:PV),cs[j]?=some q→∃y,w.cell? ⟨b,off+j,none⟩=some y∧y.oneCell'=true∧dL w E q y:=by
 cases p with
 |be l i o=>
  simp only[Kv]at hp
  split at hp
  ·rename_i mb hm
   obtain⟨B,hB,hb,hz,rfl⟩:=h.BY hk hm
   obtain⟨pS,Za9,rfl⟩:=Ww.1 hp
   refine⟨B.b,_,rfl,(hk.own l B hB hz).2.1,fun j q hq=>?_⟩
   obtain⟨cells,h1,h2,h3⟩:=hb.mem hz
   rw[WE]at hq
   obtain⟨y,a,b,c⟩:=h3 i pS (o+j) q Za9 hq
   exact⟨y,by rw[cell_of_row w B.b _ cells B.T (0,0) h1,Xu];exact a,b,c⟩
  ·cases hp
 |rp pS=>
  obtain rfl:pS=cs:=by simpa[Kv]using hp
  cases h.L1 with
  |rp _ b off u hS hc h1 hr=>exact⟨b,off,rfl,hk.sz b hS,fun j q hq=>⟨u j,hc j q hq,h1 j q hq,.c (hr j q hq)⟩⟩
 |_=>simp[Kv]at hp
def D1:TypeDesc→Bool
 |.struct _|.array _ _=>true
 |_=>false
theorem su{P:Program}(h:P.underlying t=some d)(w:World):(isAgg t).run P w=.ok (D1 d) w:=by
 unfold isAgg
 rw[Sem.run_bind,run_underlying h w]
 cases d<;>simp[D1]
theorem Gw{P:Program}(h:P.underlying t=some d):∃i,P.info? t=some i∧i.size=P.cellsOf t∧i.bytes=P.bytesOf t:=by
 unfold Program.underlying at h
 cases hi:P.info? t with
 |none=>simp[hi]at h
 |some i=>exact⟨i,rfl,by simp[Program.cellsOf,hi],by simp[Program.bytesOf,hi]⟩
theorem jV{P:Program}(h:0<P.cellsOf t):∃i,P.info? t=some i∧i.size=P.cellsOf t:=by
 unfold Program.cellsOf at *
 cases hi:P.info? t with
 |none=>simp[hi]at h
 |some i=>exact⟨i,rfl,by simp⟩
theorem run_sizeOf{P:Program}{i:TypeInfo}(h:P.info? t=some i)(w:World):(sizeOf t).run P w=.ok i.size w:=by
 simp[sizeOf,typeInfo,h]
def rR(P:Program)(T:TypeId)(cs:Option (List PV))(K:PV→Prop):Prop:=
 match P.underlying T,cs with
 |some d,some cs=>match D1 d with
  |true=>P.cellsOf T≤cs.length∧K (.ag (cs.take (P.cellsOf T)))
  |false=>match cs with
   |c::_=>K c
   | []=>False
 |_,_=>False
theorem Fi{P:Program}{cs:List PV}{K:PV→Prop}(h:rR P T (some cs) K){b off:Nat}(hb:b<w.heap.size)
 (hc:∀(j:Nat) (q:PV),cs[j]?=some q→∃y,w.cell? ⟨b,off+j,none⟩=some y∧y.oneCell'=true∧dL w E q y):
 ∃p x,K p∧(∀w',Up w w'→(loadVar T ⟨b,off,none⟩).run P w'=.ok x w')∧dL w E p x:=by
 unfold rR at h
 split at h
 ·rename_i d pS hd qF
  obtain rfl:cs=pS:=by simpa using qF
  obtain⟨i,hi,hs,_⟩:=Gw hd
  split at h
  ·rename_i CA
   obtain⟨hle,hK⟩:=h
   have hex:∀j:Fin (P.cellsOf T),∃y,w.cell? ⟨b,off+j,none⟩=some y∧y.oneCell'=true∧∀q,cs[j.1]?=some q→dL w E q y:=by
    intro j
    have hj:j.1<cs.length:=by omega
    obtain⟨y,h1,h2,h3⟩:=hc j.1 _ (VT hj)
    exact⟨y,h1,h2,fun q hq=>by rw[VT hj]at hq;cases hq;exact h3⟩
   obtain⟨f,hf⟩:=Classical.axiomOfChoice hex
   refine⟨_,.agg (Array.ofFn f),hK,fun w' hu=>?_,?_⟩
   ·have hl:(loadCells ⟨b,off,none⟩ (XP f).length).run P w'=.ok (XP f).toArray w':=run_loadCells_list (P:=P) w' _ (XP f) fun j v hv=>by
     have hj:j<P.cellsOf T:=by have:=(VU.1 hv).1;simpa using this
     have e:(⟨b,off,none⟩:Addr).add j=⟨b,off+j,none⟩:=by unfold Addr.add;split<;>simp_all
     rw[e,hu.cell (p:=⟨b,off+j,none⟩) hb,(hf ⟨j,hj⟩).1]
     simpa[hj]using hv
    simp only[List.length_ofFn]at hl
    have e2:(XP f).toArray=Array.ofFn f:=by simp
    rw[e2]at hl
    simp[loadVar,su hd,CA,run_sizeOf hi,hs,hl]
   ·refine .ag _ _ (by simp;omega) (fun j x hx=>?_) fun j p x hp hx=>?_
    ·have hj:j<P.cellsOf T:=by have:=(V6.1 hx).1;simpa using this
     have:f ⟨j,hj⟩=x:=by simpa[hj]using hx
     rw[←this];exact(hf ⟨j,hj⟩).2.1
    ·have hj:j<P.cellsOf T:=by have:=(V6.1 hx).1;simpa using this
     have:f ⟨j,hj⟩=x:=by simpa[hj]using hx
     rw[←this]
     rw[WR hj]at hp
     exact(hf ⟨j,hj⟩).2.2 p hp
  ·rename_i CA
   split at h
   ·rename_i c pS
    obtain⟨y,h1,h2,h3⟩:=hc 0 c rfl
    refine⟨c,y,h,fun w' hu=>?_,h3⟩
    have ML:w'.cell? ⟨b,off,none⟩=some y:=(hu.cell (p:=⟨b,off,none⟩) hb).trans h1
    simp[loadVar,su hd,CA,ML]
   ·exact h.elim
 ·exact h.elim
theorem Lx{P:Program}{cs:List PV}{K:PV→Prop}(h:rR P T (some (cs.drop off)) K){vs:Array Value}(hl:vs.size=cs.length)
 (h1:∀(j:Nat) (x:Value),vs[j]?=some x→x.oneCell'=true) (hr:∀(j:Nat) (p:PV) (x:Value),cs[j]?=some p→vs[j]?=some x→dL w E p x):
 ∃p x,K p∧(∀w',(part T vs off).run P w'=.ok x w')∧dL w E p x:=by
 unfold rR at h
 split at h
 ·rename_i d pS hd qF
  obtain rfl:cs.drop off=pS:=by simpa using qF
  obtain⟨i,hi,hs,_⟩:=Gw hd
  split at h
  ·rename_i CA
   obtain⟨hle,hK⟩:=h
   rw[WK]at hle
   refine⟨_,.agg (vs.extract off (off+P.cellsOf T)),hK,fun w'=>?_,?_⟩
   ·simp[part,su hd,CA,run_sizeOf hi,hs]
   ·refine .ag _ _ (by simp;omega) (fun j x hx=>?_) fun j p x hp hx=>?_
    ·rw[XQ]at hx
     split at hx
     ·exact h1 _ _ hx
     ·cases hx
    ·rw[XQ]at hx
     split at hx
     ·rename_i hj
      rw[WR (by omega),WE]at hp
      exact hr _ p x hp hx
     ·cases hx
  ·rename_i CA
   split at h
   ·rename_i c pS Za9
    have hc:cs[off]?=some c:=by
     have:(cs.drop off)[0]?=some c:=by rw[Za9];rfl
     simpa using this
    have ho:off<vs.size:=by rw[hl];exact(VU.1 hc).1
    refine⟨c,vs[off],h,fun w'=>?_,hr off c _ hc (V9 ho)⟩
    simp[part,su hd,CA,V9 ho]
   ·exact h.elim
 ·exact h.elim
end
def FD(a b:ByteArray):Bool:=decide (a.size+b.size≤9223372036854775807)
def qB(a b:ByteArray):Bool:=Op.bytesLess a.toList b.toList
def Hg(a b:ByteArray):Bool:=Op.bytesLess a.toList b.toList ||a.toList==b.toList
theorem Int.B4(a b:Int):(a==b)=decide (a=b):=rfl
theorem baL(a b:ByteArray):(a.toList=b.toList)=(a=b):=by
 rw[ByteArray.toList_eq,ByteArray.toList_eq]
 obtain⟨⟨x⟩⟩:=a
 obtain⟨⟨y⟩⟩:=b
 simp
theorem baB(a b:ByteArray):(a.toList==b.toList)=decide (a=b):=by
 rw[Bool.eq_iff_iff,beq_iff_eq,baL,decide_eq_true_eq]
def TA(P:Program)(op:BinOp)(T:TypeId):Value→Value→Option Value
 |.int k a,.int k' b=>
  match op with
  |.shl=>if 0≤b then some (.int k (k.wrap (a*2 ^ (min b.toNat k.bits))))else none
  |.shr=>if 0≤b then some (.int k (a.fdiv (2 ^ (min b.toNat k.bits))))else none
  |.add=>if k=k' then some (.int k (k.wrap (a+b)))else none
  |.sub=>if k=k' then some (.int k (k.wrap (a-b)))else none
  |.mul=>if k=k' then some (.int k (k.wrap (a*b)))else none
  |.quo=>if k=k'∧b≠0 then some (.int k (k.wrap (a.tdiv b)))else none
  |.rem=>if k=k'∧b≠0 then some (.int k (a.tmod b))else none
  |.and=>if k=k' then some (.int k (k.wrap (Wn k.bits a &&& Wn k.bits b).toNat))else none
  |.or=>if k=k' then some (.int k (k.wrap (Wn k.bits a |||Wn k.bits b).toNat))else none
  |.xor=>if k=k' then some (.int k (k.wrap (Wn k.bits a ^^^ Wn k.bits b).toNat))else none
  |.eql=>if k=k' then some (.bool (decide (a=b)))else none
  |.neq=>if k=k' then some (.bool (!decide (a=b)))else none
  |.lss=>if k=k' then some (.bool (decide (a<b)))else none
  |.leq=>if k=k' then some (.bool (decide (a≤b)))else none
  |.gtr=>if k=k' then some (.bool (decide (b<a)))else none
  |.geq=>if k=k' then some (.bool (decide (b≤a)))else none
  |_=>none
 |.string a,.string b=>
  match op with
  |.add=>if FD a b=true then some (.string (a++b))else none
  |.eql=>some (.bool (decide (a=b)))
  |.neq=>some (.bool !decide (a=b))
  |.lss=>some (.bool (qB a b))
  |.leq=>some (.bool (Hg a b))
  |.gtr=>some (.bool !Hg a b)
  |.geq=>some (.bool !qB a b)
  |_=>none
 |.bool a,.bool b=>match P.underlying T with
  |some .bool=>match op with
   |.eql=>some (.bool (a==b))
   |.neq=>some (.bool !(a==b))
   |_=>none
  |_=>none
 |_,_=>none
theorem Ic{P:Program}{x y:Operand}{a b r:Value}(h:TA P op T a b=some r)(w:World):
 ((do eqGuard op T x y a b;binOp op T a b:Sem Value).run P w)=.ok r w∧r.oneCell'=true:=by
 unfold TA at h
 split at h
 ·rename_i k a k' b
  cases op<;>simp only[W1,V1,reduceCtorEq]at h
  all_goals first
   |(obtain⟨⟨rfl,h0⟩,rfl⟩:=h;simp[eqGuard,binOp,Op.intDiv,h0,Value.oneCell'];done)
   |(obtain⟨rfl,rfl⟩:=h;simp[eqGuard,binOp,Op.intArith,Op.intBits,Op.intCmp,Value.oneCell',bne];done)
   |(obtain⟨rfl,rfl⟩:=h;exact⟨by simp[eqGuard,binOp,Op.intCmp,bne,Int.B4],rfl⟩)
   |(obtain⟨h0,rfl⟩:=h
     have h1:¬b<0:=by omega
     simp[eqGuard,binOp,Op.shift,h1,Value.oneCell'];done)
 ·rename_i a b
  cases op<;>simp only[W1,V1,reduceCtorEq]at h
  all_goals first
   |(subst h;simp[eqGuard,binOp,Op.stringOp,Value.oneCell',qB,Hg,baB];done)
   |(obtain⟨h0,rfl⟩:=h
     have h0:a.size+b.size≤9223372036854775807:=of_decide_eq_true h0
     have h1:¬IntKind.i64.max<((a.size+b.size:Nat):Int):=by
      have:IntKind.i64.max=9223372036854775807:=rfl
      rw[this];omega
     simp only[eqGuard,binOp,Op.stringOp]
     simp[Value.oneCell']
     omega)
 ·rename_i a b
  split at h
  ·rename_i hu
   cases op<;>simp only[V1,reduceCtorEq]at h
   all_goals(subst h;simp[eqGuard,binOp,Op.equal,Op.maxDepth,run_equalIn_bool' w _ _ _ _ hu,Value.oneCell'])
  ·cases h
 ·cases h
def Cr(P:Program):Nat→TypeId→List PV→List PV→Option Bool
 |0,_,_,_=>none
 |d+1,T,cs,ds=>
  match P.underlying T with
  |some .bool=>match cs,ds with
   |.v (.bool a)::_,.v (.bool b)::_=>some (a==b)
   |_,_=>none
  |some (.int _)=>match cs,ds with
   |.v (.int k a)::_,.v (.int k' b)::_=>if k=k' then some (a==b)else none
   |_,_=>none
  |some .string=>match cs,ds with
   |.v (.string a)::_,.v (.string b)::_=>some (a.toList==b.toList)
   |_,_=>none
  |some (.struct _)=>if P.stoodInHeld T then none else
   (P.fieldsOf T).toList.foldr (fun f acc => if f.name = "_" then none else match Cr P d f.type ((cs.drop f.offset).take (P.cellsOf f.type)) ((ds.drop f.offset).take (P.cellsOf f.type)), acc with
    |some r,some s=>some (r&&s)
    |_,_=>none) (some true)
  |_=>none
section
variable {w:World} {O:Nat→Prop} {E:Env} {w0:World} {m:Mem} {P:Program}
def va(w:World)(E:Env)(P:Program)(T:TypeId)(cs:List PV)(x:Value):Prop:=
 ∀d,P.underlying T=some d→(D1 d=true→∃vs:Array Value,x=.agg vs∧∀(j:Nat) (p:PV),cs[j]?=some p→∃v,vs[j]?=some v∧dL w E p v)∧(D1 d=false→∀p,cs[0]?=some p→dL w E p x)
theorem MJ:∀(d:Nat) (T:TypeId) (cs ds:List PV) (x y:Value) (r:Bool),Cr P d T cs ds=some r→va w E P T cs x→va w E P T ds y→∀w':World,(Op.equalIn d T x y).run P w'=.ok r w'
 |0,_,_,_,_,_,_,h,_,_,_=>by simp[Cr]at h
 |d+1,T,cs,ds,x,y,r,h,hx,hy,w'=>by
  unfold Cr at h
  split at h
  ·rename_i hu
   split at h
   ·rename_i a _ b _
    have h1:=((hx _ hu).2 rfl _ rfl).iG.1
    have h2:=((hy _ hu).2 rfl _ rfl).iG.1
    subst h1 h2
    simp only[V1]at h
    subst h
    exact run_equalIn_bool' w' _ _ _ _ hu
   ·cases h
  ·rename_i k0 hu
   split at h
   ·rename_i k a _ k' b _
    simp only[W1,V1]at h
    obtain⟨rfl,rfl⟩:=h
    have h1:=((hx _ hu).2 rfl _ rfl).iG.1
    have h2:=((hy _ hu).2 rfl _ rfl).iG.1
    subst h1 h2
    simp[Op.equalIn,run_underlying hu]
   ·cases h
  ·rename_i hu
   split at h
   ·rename_i a _ b _
    have h1:=((hx _ hu).2 rfl _ rfl).iG.1
    have h2:=((hy _ hu).2 rfl _ rfl).iG.1
    subst h1 h2
    simp only[V1]at h
    subst h
    exact run_equalIn_string w' _ _ _ _ hu
   ·cases h
  ·rename_i fs hu
   simp only[Yk]at h
   obtain⟨rD,h⟩:=h
   have Zfc:P.stoodInHeld T=false:=by simpa using rD
   obtain⟨vs,rfl,hvs⟩:=(hx _ hu).1 rfl
   obtain⟨us,rfl,Uy⟩:=(hy _ hu).1 rfl
   have hf:P.fieldsOf T=fs:=by simp[Program.fieldsOf,hu]
   rw[run_equalIn_struct w' d T vs us (by rw[hf];exact hu) Zfc,hf]
   rw[hf]at h
   generalize fs.toList=l at h
   clear hu hf
   induction l generalizing r with
   |nil=>simp only[List.foldr_nil,V1]at h;subst h;simp[Op.eqFields]
   |cons f l ih=>
    simp only[List.foldr_cons,Yk]at h
    obtain⟨hn,h⟩:=h
    split at h
    ·rename_i r1 r2 h1 h2
     simp only[V1]at h
     subst h
     have M6:∀{zs:Array Value} {es:List PV},(∀(j:Nat) (p:PV),es[j]?=some p→∃v,zs[j]?=some v∧dL w E p v)→((es.drop f.offset).take (P.cellsOf f.type))≠[]∨(∃fs,P.underlying f.type=some (.struct fs))→
      (∃dd,P.underlying f.type=some dd)→∃z,(part f.type zs f.offset).run P w'=.ok z w'∧va w E P f.type ((es.drop f.offset).take (P.cellsOf f.type)) z:=by
      intro zs es hz iw ⟨dd,hd⟩
      obtain⟨i,hi,hs,_⟩:=Gw hd
      cases CA:D1 dd with
      |true=>
       refine⟨.agg (zs.extract f.offset (f.offset+P.cellsOf f.type)),by simp[part,su hd,CA,run_sizeOf hi,hs],?_⟩
       intro d' vt
       rw[hd]at vt;cases vt
       refine⟨fun _=>⟨_,rfl,fun j p hp=>?_⟩,fun h=>by rw[CA]at h;cases h⟩
       rw[WN]at hp
       split at hp
       ·rename_i hj
        rw[WE]at hp
        obtain⟨v,h1,h2⟩:=hz _ p hp
        refine⟨v,?_,h2⟩
        have:=(V6.1 h1).1
        rw[XQ,if_pos (by omega)]
        exact h1
       ·cases hp
      |false=>
       have Zbg:((es.drop f.offset).take (P.cellsOf f.type))≠[]:=by
        rcases iw with h|⟨fs,h⟩
        ·exact h
        ·rw[hd]at h;cases h;simp[D1]at CA
       obtain⟨p,hp⟩:∃p,((es.drop f.offset).take (P.cellsOf f.type))[0]?=some p:=by
        cases hq:((es.drop f.offset).take (P.cellsOf f.type))with
        |nil=>exact absurd hq Zbg
        |cons a _=>exact⟨a,rfl⟩
       have Rv:es[f.offset]?=some p:=by
        rw[WN]at hp
        split at hp
        ·simpa using hp
        ·cases hp
       obtain⟨v,h1,h2⟩:=hz _ p Rv
       refine⟨v,by simp[part,su hd,CA,h1],?_⟩
       intro d' vt
       rw[hd]at vt;cases vt
       refine⟨fun h=>(by rw[CA]at h;cases h),fun _ q hq=>?_⟩
       rw[hp]at hq;cases hq
       exact h2
     have Gs:(((cs.drop f.offset).take (P.cellsOf f.type))≠[]∨(∃fs,P.underlying f.type=some (.struct fs)))∧(((ds.drop f.offset).take (P.cellsOf f.type))≠[]∨(∃fs,P.underlying f.type=some (.struct fs)))∧∃dd,P.underlying f.type=some dd:=by
      cases d with
      |zero=>simp[Cr]at h1
      |succ d=>
       unfold Cr at h1
       split at h1
       ·rename_i x7
        split at h1
        ·rename_i e1 e2;exact⟨.inl (by rw[e1];simp),.inl (by rw[e2];simp),_,x7⟩
        ·cases h1
       ·rename_i x7
        split at h1
        ·rename_i e1 e2;exact⟨.inl (by rw[e1];simp),.inl (by rw[e2];simp),_,x7⟩
        ·cases h1
       ·rename_i x7
        split at h1
        ·rename_i e1 e2;exact⟨.inl (by rw[e1];simp),.inl (by rw[e2];simp),_,x7⟩
        ·cases h1
       ·rename_i fs' x7
        exact⟨.inr ⟨fs',x7⟩,.inr ⟨fs',x7⟩,_,x7⟩
       ·cases h1
     obtain⟨a,ha,hac⟩:=M6 hvs Gs.1 Gs.2.2
     obtain⟨b,hb,hbc⟩:=M6 Uy Gs.2.1 Gs.2.2
     have hr:=MJ d f.type _ _ a b r1 h1 hac hbc w'
     simp only[Op.eqFields,hn,ne_eq,not_false_eq_true,if_true,Sem.run_bind,ha,hb,hr,Result.andThen_ok,Sem.run_ite]
     cases r1 with
     |true=>simpa using ih r2 h2
     |false=>simp
    ·cases h
  ·cases h
def GH(o:Option Value)(K:PV→Prop):Prop:=match o with
 |some r=>K (.v r)
 |none=>False
def uV(P:Program)(op:BinOp)(T:TypeId)(cs ds:List PV)(K:PV→Prop):Prop:=P.eqGuardType P.depth T=false∧match P.underlying T,Cr P 10000 T cs ds with
    |some (.struct _),some r=>match op with
     |.eql=>K (.v (.bool r))
     |.neq=>K (.v (.bool !r))
     |_=>False
    |_,_=>False
def Jt(P:Program)(op:BinOp)(T:TypeId)(x y:PV)(K:PV→Prop):Prop:=
 match x,y with
 |.v a,.v b=>GH (TA P op T a b) K
 |.ag cs,.ag ds=>uV P op T cs ds K
 |_,_=>False
theorem Lq{ox oy:Operand}{p q:PV}(hx:dL w E p x)(hy:dL w E q y){K:PV→Prop}(h:Jt P op T p q K):
 ∃r v,K r∧(∀w',((do eqGuard op T ox oy x y;binOp op T x y:Sem Value).run P w')=.ok v w')∧dL w E r v:=by
 unfold Jt at h
 split at h
 ·rename_i a b
  obtain⟨rfl,_⟩:=hx.iG
  obtain⟨rfl,_⟩:=hy.iG
  unfold GH at h
  split at h
  ·rename_i r hr
   exact⟨_,r,h,fun w'=>(Ic hr w').1,.c (.v r (Ic (x:=ox) (y:=oy) hr w).2)⟩
  ·exact h.elim
 ·rename_i cs ds
  unfold uV at h
  obtain⟨hg,h⟩:=h
  obtain⟨vs,rfl,hl,_,hr⟩:=hx.qg
  obtain⟨us,rfl,AA,_,HD⟩:=hy.qg
  split at h
  ·rename_i fs r hu he
   have c1:va w E P T cs (.agg vs):=by
    intro d hd
    rw[hu]at hd;cases hd
    refine⟨fun _=>⟨vs,rfl,fun j p hp=>?_⟩,fun h=>by simp[D1]at h⟩
    have hj:j<vs.size:=by rw[hl];exact(VU.1 hp).1
    exact⟨vs[j],V9 hj,hr j p _ hp (V9 hj)⟩
   have c2:va w E P T ds (.agg us):=by
    intro d hd
    rw[hu]at hd;cases hd
    refine⟨fun _=>⟨us,rfl,fun j p hp=>?_⟩,fun h=>by simp[D1]at h⟩
    have hj:j<us.size:=by rw[AA];exact(VU.1 hp).1
    exact⟨us[j],V9 hj,HD j p _ hp (V9 hj)⟩
   have jh:=fun w'=>MJ (w:=w) (E:=E) 10000 T cs ds _ _ r he c1 c2 w'
   split at h
   ·exact⟨_,.bool r,h,fun w'=>by simp only[Sem.run_bind,run_eqGuard_agg w' _ _ _ _ _ _ hg,Result.andThen_ok,run_eql_struct,jh],.c (.v _ rfl)⟩
   ·exact⟨_,.bool !r,h,fun w'=>by simp only[Sem.run_bind,run_eqGuard_agg w' _ _ _ _ _ _ hg,Result.andThen_ok,run_neq_struct,jh],.c (.v _ rfl)⟩
   ·exact h.elim
  ·exact h.elim
 ·exact h.elim
end
section
variable {w:World} {O:Nat→Prop} {E:Env} {w0:World} {m:Mem} {P:Program}
def pUn(op:UnOp)(x:PV)(K:PV→Prop):Prop:=
 match op,x with
 |.not,.v (.bool b)=>K (.v (.bool !b))
 |.neg,.v (.int k n)=>K (.v (.int k (k.wrap (0-n))))
 |_,_=>False
theorem O0{op:UnOp}{p:PV}(hx:dL w E p x){K:PV→Prop}(h:pUn op p K):∃r v,K r∧(∀w',(Op.unary op x).run P w'=.ok v w')∧dL w E r v:=by
 unfold pUn at h
 split at h
 ·obtain⟨rfl,_⟩:=hx.iG
  exact⟨_,_,h,fun w'=>by simp[Op.unary],.c (.v _ rfl)⟩
 ·obtain⟨rfl,_⟩:=hx.iG
  exact⟨_,_,h,fun w'=>by simp[Op.unary,Op.intArith],.c (.v _ rfl)⟩
 ·exact h.elim
def CZ(P:Program)(s d:TypeId)(x:PV)(K:PV→Prop):Prop:=
 match P.underlying s,P.underlying d,x with
 |some (.int _),some (.int k),.v (.int _ n)=>K (.v (.int k (k.wrap n)))
 |some .string,some .string,.v (.string t)=>K (.v (.string t))
 |_,_,_=>False
theorem Jv{s d:TypeId}{p:PV}(hx:dL w E p x){K:PV→Prop}(h:CZ P s d p K):∃r v,K r∧(∀w',(convert s d x).run P w'=.ok v w')∧dL w E r v:=by
 unfold CZ at h
 split at h
 ·rename_i _ k _ n h1 h2
  obtain⟨rfl,_⟩:=hx.iG
  exact⟨_,_,h,fun w'=>by simp[convert,run_underlying h1,run_underlying h2,Conv.intToInt],.c (.v _ rfl)⟩
 ·rename_i t h1 h2
  obtain⟨rfl,_⟩:=hx.iG
  exact⟨_,_,h,fun w'=>by simp[convert,run_underlying h1,run_underlying h2],.c (.v _ rfl)⟩
 ·exact h.elim
def live(m:Mem)(l:Nat)(K:MB→Prop):Prop:=
 match m[l]? with
 |some (some mb)=>K mb
 |_=>False
theorem iy{K:MB→Prop}(h:live m l K):∃mb,m[l]?=some (some mb)∧K mb:=by
 unfold live at h
 split at h
 ·exact⟨_,by assumption,h⟩
 ·exact h.elim
def GL(x:Option PV)(d:Int):Option Int:=
 match x with
 |none=>some d
 |some (.v (.int _ i))=>some i
 |_=>none
def kA(P:Program)(m:Mem)(T:TypeId)(x:PV)(lo hi:Option PV)(K:PV→Prop):Prop:=
 match P.underlying T,x with
 |some .string,.v (.string s)=>match GL lo 0,GL hi s.size with
  |some l,some h=>0≤l∧l≤h∧h≤s.size∧K (.v (.string (s.extract l.toNat h.toNat)))
  |_,_=>False
 |some (.slice e),.sl es=>match GL lo 0,GL hi es.length with
  |some l,some h=>0≤l∧l≤h∧h≤es.length∧0<P.cellsOf e∧(∀cs∈es,cs.length=P.cellsOf e)∧K (.sl ((es.drop l.toNat).take (h.toNat-l.toNat)))
  |_,_=>False
 |some (.slice e),.ms r=>live m r fun mb=>match GL lo 0,GL hi mb.es.length with
  |some l,some h=>0≤l∧l≤h∧h≤mb.es.length∧0<P.cellsOf e∧mb.k=P.cellsOf e∧K (.ss r l.toNat h.toNat)
  |_,_=>False
 |some (.slice e),.ss r a b=>live m r fun mb=>match GL lo 0,GL hi (b-a:Nat)with
  |some l,some h=>0≤l∧l≤h∧h≤(b-a:Nat)∧0<P.cellsOf e∧mb.k=P.cellsOf e∧K (.ss r (a+l.toNat) (a+h.toNat))
  |_,_=>False
 |some (.slice e),.v (.slice none 0 0)=>match GL lo 0,GL hi 0 with
  |some l,some h=>0≤l∧l≤h∧h≤0∧0<P.cellsOf e∧K (.sl [])
  |_,_=>False
 |_,_=>False
theorem run_sliceBound{y:Nat}{c:BoundsCode}{k:IntKind}{i:Int}(h0:0≤i)(h1:i≤y)(w':World):(Instr.sliceBound (.int k i) y c).run P w'=.ok i.toNat w':=by
 simp[Instr.sliceBound,asIntOf,h0,h1]
theorem rh{x:Option PV}{v:Option Value}{d l:Int}(h:GL x d=some l)(hx:∀p,x=some p→∃y,v=some y∧dL w E p y)(hn:x=none→v=none):(v=none∧l=d∧x=none)∨∃k,v=some (.int k l):=by
 unfold GL at h
 split at h
 ·exact .inl ⟨hn rfl,by simpa[eq_comm]using h,rfl⟩
 ·rename_i k i
  obtain⟨y,hy,hr⟩:=hx _ rfl
  obtain⟨rfl,_⟩:=hr.iG
  simp only[V1]at h
  subst h
  exact .inr ⟨k,hy⟩
 ·cases h
theorem jG{isS:Bool}{len cap:Nat}{l h:Int}(PS:(Bi=none∧l=0)∨∃k,Bi=some (.int k l))(hhi:(Bh=none∧h=len)∨∃k,Bh=some (.int k h))(h0:0≤l)(h1:l≤h)(h2:h≤len)(hc:len≤cap)(w':World):
 (Instr.sliceBounds isS len cap Bi Bh none).run P w'=.ok (l.toNat,h.toNat,cap) w':=by
 have e1:(l:Int)≤(h.toNat:Int):=by omega
 have e2:h≤(cap:Int):=by omega
 have e3:0≤h:=by omega
 have r1:∀k c,(Instr.sliceBound (.int k l) h.toNat c).run P w'=.ok l.toNat w':=fun k c=>run_sliceBound h0 e1 w'
 have r2:∀k c,(Instr.sliceBound (.int k h) cap c).run P w'=.ok h.toNat w':=fun k c=>run_sliceBound e3 e2 w'
 clear e1 e2 e3 hc h2
 rcases PS with⟨rfl,rfl⟩ |⟨k,rfl⟩<;>rcases hhi with⟨rfl,rfl⟩ |⟨k',rfl⟩<;>
  (try simp only[Int.toNat_natCast]at r1)<;>simp[Instr.sliceBounds,r1,r2]
theorem sd{T e:TypeId}{i:TypeInfo}(hu:P.underlying T=some (.slice e))(lV:P.info? e=some i)(hs:i.size=P.cellsOf e){A:Option Addr}{l hh:Int}{w':World}
 (hb:(Instr.sliceBounds true n c Bi Bh none).run P w'=.ok (l.toNat,hh.toNat,c) w'):
 (Instr.sliceAt T (.slice A n c) Bi Bh none).run P w'=.ok (.slice (if c=l.toNat then A else A.map (·.add (l.toNat*P.cellsOf e))) (hh.toNat-l.toNat) (c-l.toNat)) w':=by
 simp[Instr.sliceAt,Instr.slice,run_underlying hu,hb,run_sizeOf lV,hs]
theorem GU(hk:Ok w0 O E w m){p:PV}{lo hi:Option PV}(hx:dL w E p x)(h1:∀p,lo=some p→∃y,Bi=some y∧dL w E p y)(h1n:lo=none→Bi=none)
 (h2:∀p,hi=some p→∃y,Bh=some y∧dL w E p y) (h2n:hi=none→Bh=none) {K:PV→Prop} (h:kA P m T p lo hi K):
 ∃r v,K r∧(∀w',(Instr.sliceAt T x Bi Bh none).run P w'=.ok v w')∧dL w E r v:=by
 unfold kA at h
 split at h
 ·rename_i s hu
  obtain⟨rfl,_⟩:=hx.iG
  split at h
  ·rename_i l hh e1 e2
   obtain⟨a1,a2,a3,hK⟩:=h
   refine⟨_,.string (s.extract l.toNat hh.toNat),hK,fun w'=>?_,.c (.v _ rfl)⟩
   have b1:=rh e1 h1 h1n
   have b2:=rh e2 h2 h2n
   have hb:=jG (P:=P) (isS:=false) (len:=s.size) (cap:=s.size) (l:=l) (h:=hh) (Bi:=Bi) (Bh:=Bh) (by rcases b1 with⟨a,b,_⟩ |b;exact .inl ⟨a,b⟩;exact .inr b) (by rcases b2 with⟨a,b,_⟩ |b;exact .inl ⟨a,b⟩;exact .inr b) a1 a2 a3 (V3 _) w'
   simp[Instr.sliceAt,Instr.slice,run_underlying hu,hb]
  ·exact h.elim
 ·rename_i e es hu
  split at h
  ·rename_i l hh e1 e2
   obtain⟨a1,a2,a3,gz,hlen,hK⟩:=h
   have b1:=rh e1 h1 h1n
   have b2:=rh e2 h2 h2n
   obtain⟨i,lV,hs⟩:=jV gz
   cases hx.vR with
   |nil A c=>
    simp only[List.length_nil]at a3 b2
    have D9:l=0:=by simp at a3;omega
    have hh0:hh=0:=by simp at a3;omega
    subst D9 hh0
    have hb:=jG (P:=P) (isS:=true) (len:=0) (cap:=c) (l:=0) (h:=0) (Bi:=Bi) (Bh:=Bh) (by rcases b1 with⟨a,b,_⟩ |b;exact .inl ⟨a,b⟩;exact .inr b) (by rcases b2 with⟨a,b,_⟩ |b;exact .inl ⟨a,b⟩;exact .inr b) (by omega) (by omega) (by simp) (WV _)
    refine⟨_,.slice (if c=0 then A else A.map (·.add 0)) 0 c,hK,fun w'=>?_,?_⟩
    ·simp[Instr.sliceAt,Instr.slice,run_underlying hu,hb,run_sizeOf lV]
    ·simp only[Int.toNat_zero,List.drop_zero,Nat.sub_self,List.take_zero]
     exact .c (.nil _ _)
   |sl _ b off k c u hS hk hn hm xx hc ML hr=>
    have hb:=jG (P:=P) (isS:=true) (len:=es.length) (cap:=c) (l:=l) (h:=hh) (Bi:=Bi) (Bh:=Bh) (by rcases b1 with⟨a,b,_⟩ |b;exact .inl ⟨a,b⟩;exact .inr b) (by rcases b2 with⟨a,b,_⟩ |b;exact .inl ⟨a,b⟩;exact .inr b) a1 a2 a3 hn
    have bF:((es.drop l.toNat).take (hh.toNat-l.toNat)).length=hh.toNat-l.toNat:=by
     rw[V8,WK];omega
    refine⟨_,.slice (if c=l.toNat then some ⟨b,off,none⟩else some ((⟨b,off,none⟩:Addr).add (l.toNat*P.cellsOf e))) (hh.toNat-l.toNat) (c-l.toNat),hK,fun w'=>?_,?_⟩
    ·simp[Instr.sliceAt,Instr.slice,run_underlying hu,hb,run_sizeOf lV,hs]
    ·rcases Nat.eq_zero_or_pos (hh.toNat-l.toNat)with h0|h0
     ·rw[h0];simp only[List.take_zero];exact .c (.nil _ _)
     ·have iw:¬c=l.toNat:=by omega
      rw[if_neg iw]
      have hek:k=P.cellsOf e:=by
       have hl:l.toNat<es.length:=by omega
       exact(xx _ _ (VT hl)).symm.trans (hlen _ (List.getElem_mem hl))
      have ea:(⟨b,off,none⟩:Addr).add (l.toNat*P.cellsOf e)=⟨b,off+l.toNat*k,none⟩:=by rw[hek];unfold Addr.add;split<;>simp_all
      have get:∀{i:Nat} {cs:List PV},((es.drop l.toNat).take (hh.toNat-l.toNat))[i]?=some cs→es[l.toNat+i]?=some cs:=by
       intro i cs hi
       rw[WN]at hi
       split at hi
       ·rwa[WE]at hi
       ·cases hi
      have key:=fA.sl (w:=w) (S:=E.S) ((es.drop l.toNat).take (hh.toNat-l.toNat)) b (off+l.toNat*k) k (c-l.toNat) (fun i j=>u (l.toNat+i) j) hS hk (by rw[bF];omega) (by omega)
       (fun i cs hi=>xx _ cs (get hi)) (fun i cs j p hi hj=>by
        have:=hc _ cs j p (get hi) hj
        rw[W6]at this
        rw[←this]
        congr 2
        omega) (fun i cs j p hi hj=>ML _ cs j p (get hi) hj) (fun i cs j p hi hj=>hr _ cs j p (get hi) hj)
      rw[bF]at key
      rw[ea]
      exact .c key
  ·exact h.elim
 ·rename_i e r hu
  obtain⟨mb,hm,h⟩:=iy h
  split at h
  ·rename_i l hh e1 e2
   obtain⟨a1,a2,a3,gz,D8,hK⟩:=h
   have b1:=rh e1 h1 h1n
   have b2:=rh e2 h2 h2n
   obtain⟨i,lV,hs⟩:=jV gz
   obtain⟨B,hB,hbr,rfl⟩:=hx.sI hk hm
   have PO:=hbr.n
   have wU:=hbr.nc
   have zo:∃A n c,B.sv=.slice A n c∧n=mb.es.length∧n≤c∧c≤maxLen∧(0<n→B.z=false∧A=some ⟨B.b,0,none⟩)∧(B.z=false→A=some ⟨B.b,0,none⟩∧c=B.c):=by
    cases hz:B.z with
    |true=>exact⟨none,0,0,by simp[qa.sv,hz],by rw[hbr.nil hz];rfl,by omega,by unfold maxLen;omega,by omega,fun h=>nomatch h⟩
    |false=>exact⟨_,_,_,by simp[qa.sv,hz],PO,wU,hbr.cm,fun _=>⟨rfl,rfl⟩,fun _=>⟨rfl,rfl⟩⟩
   obtain⟨A,n,c,DX,hn,Ze6,IZ,hA,hA0⟩:=zo
   rw[DX]
   have hb:=jG (P:=P) (isS:=true) (len:=n) (cap:=c) (l:=l) (h:=hh) (Bi:=Bi) (Bh:=Bh) (by rcases b1 with⟨a,b,_⟩ |b;exact .inl ⟨a,b⟩;exact .inr b) (by rcases b2 with⟨a,b,_⟩ |b;exact .inl ⟨a,by rw[b,hn]⟩;exact .inr b) a1 a2 (by rw[hn];exact a3) Ze6
   refine⟨_,_,hK,fun w'=>sd hu lV hs (hb w'),.ss _ _ _ _ (lU hk hm) rfl fun B' kL=>?_⟩
   rw[hB]at kL;cases kL
   refine⟨⟨_,_,rfl,by omega,by omega,fun bF=>?_⟩,fun D9 hz=>by
    obtain⟨rfl,rfl⟩:=hA0 hz
    exact⟨_,by rw[D9,Yg,Nat.sub_zero];split<;>rfl⟩⟩
   obtain⟨hz,hA'⟩:=hA (by omega)
   refine⟨hz,?_,by omega,by omega⟩
   rw[if_neg (by omega),hA']
   have:(⟨B.b,0,none⟩:Addr).add (l.toNat*P.cellsOf e)=⟨B.b,l.toNat*B.k,none⟩:=by rw[hbr.k,D8];unfold Addr.add;split<;>simp_all
   simp[this]
  ·exact h.elim
 ·rename_i e r a b hu
  obtain⟨mb,hm,h⟩:=iy h
  split at h
  ·rename_i l hh e1 e2
   obtain⟨a1,a2,a3,gz,D8,hK⟩:=h
   have b1:=rh e1 h1 h1n
   have b2:=rh e2 h2 h2n
   obtain⟨i,lV,hs⟩:=jV gz
   have hx0:a=0→∃B,E.β r=some B∧(B.z=false→x=.slice (some ⟨B.b,0,none⟩) b B.c):=fun h0=>by
    subst h0
    obtain⟨B,hB,_,_,h,_⟩:=hx.Nu hk hm
    exact⟨B,hB,h⟩
   obtain⟨B,hB,hbr,A,c,rfl,Ba,hbB,hA⟩:=hx.Al hk hm
   have Tl:a=0→B.z=false→A=some ⟨B.b,0,none⟩∧c=B.c:=fun h0 hz=>by
    obtain⟨B',kL,h⟩:=hx0 h0
    rw[hB]at kL;cases kL
    have:=h hz
    injection this with e1 e2 e3
    exact⟨e1,e3⟩
   rcases WB a b with bF|yz
   ·obtain⟨hz,rfl,u4,DT⟩:=hA bF
    have hb:=jG (P:=P) (isS:=true) (len:=b-a) (cap:=c) (l:=l) (h:=hh) (Bi:=Bi) (Bh:=Bh) (by rcases b1 with⟨a,b,_⟩ |b;exact .inl ⟨a,b⟩;exact .inr b) (by rcases b2 with⟨a,b,_⟩ |b;exact .inl ⟨a,b⟩;exact .inr b) a1 a2 a3 u4
    refine⟨_,_,hK,fun w'=>sd hu lV hs (hb w'),.ss _ _ _ _ (lU hk hm) rfl fun B' kL=>?_⟩
    rw[hB]at kL;cases kL
    refine⟨⟨_,_,by congr 1;omega,by omega,by omega,fun Gp=>?_⟩,fun D9 hz=>by
     obtain⟨e1,rfl⟩:=Tl (by omega) hz
     have e0:l.toNat=0:=by omega
     exact⟨_,by rw[e0,Yg,Nat.sub_zero,e1];split<;>rfl⟩⟩
    refine⟨hz,?_,by omega,by omega⟩
    rw[if_neg (by omega)]
    have:(⟨B.b,a*B.k,none⟩:Addr).add (l.toNat*P.cellsOf e)=⟨B.b,(a+l.toNat)*B.k,none⟩:=by
     rw[hbr.k,D8,W6];unfold Addr.add;split<;>simp_all
    simp[this]
   ·have D9:l=0:=by omega
    have hh0:hh=0:=by omega
    subst D9 hh0
    have PN:b-a=0:=by omega
    rw[PN]
    have hb:=jG (P:=P) (isS:=true) (len:=0) (cap:=c) (l:=0) (h:=0) (Bi:=Bi) (Bh:=Bh) (by rcases b1 with⟨a,b,_⟩ |b;exact .inl ⟨a,b⟩;exact .inr b) (by rcases b2 with⟨a,b,_⟩ |b;exact .inl ⟨a,by omega⟩;exact .inr b) (by omega) (by omega) (by omega) (WV _)
    refine⟨_,_,hK,fun w'=>sd hu lV hs (hb w'),.ss _ _ _ _ (lU hk hm) rfl fun B' kL=>?_⟩
    rw[hB]at kL;cases kL
    exact⟨⟨_,_,by congr 1;simp,by omega,by simp;omega,fun Gp=>by simp at Gp⟩,fun D9 hz=>by
     obtain⟨rfl,rfl⟩:=Tl (by simpa using D9) hz
     exact⟨_,by simp only[Int.toNat_zero,Yg,Nat.sub_zero];split<;>rfl⟩⟩
  ·exact h.elim
 ·rename_i e hu
  split at h
  ·rename_i l hh e1 e2
   obtain⟨a1,a2,a3,gz,hK⟩:=h
   have b1:=rh e1 h1 h1n
   have b2:=rh e2 h2 h2n
   obtain⟨i,lV,hs⟩:=jV gz
   obtain⟨rfl,_⟩:=hx.iG
   have D9:l=0:=by omega
   have hh0:hh=0:=by omega
   subst D9 hh0
   have hb:=jG (P:=P) (isS:=true) (len:=0) (cap:=0) (l:=0) (h:=0) (Bi:=Bi) (Bh:=Bh) (by rcases b1 with⟨a,b,_⟩ |b;exact .inl ⟨a,b⟩;exact .inr b) (by rcases b2 with⟨a,b,_⟩ |b;exact .inl ⟨a,b⟩;exact .inr b) (by omega) (by omega) (by omega) (WV _)
   exact⟨_,_,hK,fun w'=>sd hu lV hs (hb w'),.c (.nil _ _)⟩
  ·exact h.elim
 ·exact h.elim
def Ek(m:Mem)(x:PV)(K:PV→Prop):Prop:=
 match x with
 |.be l i o=>live m l fun _=>K (.be l i o)
 |.rp cs=>K (.rp cs)
 |_=>False
def kz(P:Program)(m:Mem)(S:TypeId)(x:PV)(f:Nat)(K:PV→Prop):Prop:=
 match P.underlying S with
 |some (.struct fs)=>match fs[f]? with
  |some fd=>0<P.cellsOf fd.type∧match x with
   |.be l i o=>live m l fun _=>K (.be l i (o+fd.offset))
   |.rp cs=>K (.rp (cs.drop fd.offset))
   |_=>False
  |none=>False
 |_=>False
theorem zW(hk:Ok w0 O E w m){S:TypeId}{p:PV}{f:Nat}(hx:dL w E p x){K:PV→Prop}(h:kz P m S p f K):
 ∃r v,K r∧(∀w',(Instr.fieldAt S x f).run P w'=.ok v w')∧dL w E r v:=by
 unfold kz at h
 split at h
 ·rename_i fs hu
  split at h
  ·rename_i fd hf
   obtain⟨gz,h⟩:=h
   obtain⟨i,hi,hs⟩:=jV gz
   have iw:¬i.size=0:=by omega
   have run:∀b o w',(Instr.fieldAt S (.pointer (some ⟨b,o,none⟩)) f).run P w'=.ok (.pointer (some ⟨b,o+fd.offset,none⟩)) w':=by
    intro b o w'
    have ea:(⟨b,o,none⟩:Addr).add fd.offset=⟨b,o+fd.offset,none⟩:=by unfold Addr.add;split<;>simp_all
    simp[Instr.fieldAt,run_underlying hu,hf,Instr.sureAddr,fieldPlace,run_sizeOf hi,iw,ea]
   split at h
   ·rename_i l i' o
    obtain⟨mb,hm,hK⟩:=iy h
    obtain⟨B,hB,hb,hz,rfl⟩:=hx.BY hk hm
    exact⟨_,_,hK,run _ _,.be _ _ _ _ (lU hk hm) rfl fun B' kL=>by rw[hB]at kL;cases kL;exact⟨hz,by rw[Xu]⟩⟩
   ·rename_i cs
    cases hx.L1 with
    |rp _ b off u hS hc h1 hr=>
     refine⟨_,_,h,run _ _,.c (.rp _ b (off+fd.offset) (fun j=>u (fd.offset+j)) hS (fun j p hj=>?_) (fun j p hj=>?_) fun j p hj=>?_)⟩
     ·rw[WE]at hj;rw[Xu];exact hc _ p hj
     ·rw[WE]at hj;exact h1 _ p hj
     ·rw[WE]at hj;exact hr _ p hj
   ·exact h.elim
  ·exact h.elim
 ·exact h.elim
def vJ(P:Program)(S:TypeId)(x:PV)(f:Nat)(K:PV→Prop):Prop:=
 match P.underlying S with
 |some (.struct fs)=>match fs[f]?,x with
  |some fd,.ag cs=>rR P fd.type (some (cs.drop fd.offset)) K
  |_,_=>False
 |_=>False
theorem GQ{S:TypeId}{p:PV}{f:Nat}(hx:dL w E p x){K:PV→Prop}(h:vJ P S p f K):
 ∃r v,K r∧(∀w',(Instr.field S x f).run P w'=.ok v w')∧dL w E r v:=by
 unfold vJ at h
 split at h
 ·rename_i fs hu
  split at h
  ·rename_i fd cs hf
   obtain⟨vs,rfl,hl,h1,hr⟩:=hx.qg
   obtain⟨r,v,hK,jh,sU⟩:=Lx h hl h1 hr
   exact⟨r,v,hK,fun w'=>by simp[Instr.field,run_underlying hu,hf,asAgg,jh],sU⟩
  ·exact h.elim
 ·exact h.elim
def cQ(P:Program)(m:Mem)(T:TypeId)(x i:PV)(K:PV→Prop):Prop:=
 match P.underlying T,i with
 |some (.slice e),.v (.int _ n)=>match x with
  |.sl es=>0≤n∧n<es.length∧0<P.cellsOf e∧(es.getD n.toNat []).length=P.cellsOf e∧K (.rp (es.getD n.toNat []))
  |.ms l=>live m l fun mb=>0≤n∧n<mb.es.length∧mb.k=P.cellsOf e∧K (.be l n.toNat 0)
  |.ss l a b=>live m l fun mb=>0≤n∧n<(b-a:Nat)∧mb.k=P.cellsOf e∧K (.be l (a+n.toNat) 0)
  |_=>False
 |_,_=>False
theorem zY(hk:Ok w0 O E w m){p q:PV}(hx:dL w E p x)(hy:dL w E q y){K:PV→Prop}(h:cQ P m T p q K):
 ∃r v,K r∧(∀w',(Instr.indexAt T x y).run P w'=.ok v w')∧dL w E r v:=by
 unfold cQ at h
 split at h
 ·rename_i e kk n hu
  obtain⟨rfl,_⟩:=hy.iG
  split at h
  ·rename_i es
   obtain⟨a1,a2,gz,hlen,hK⟩:=h
   obtain⟨i,hi,hs⟩:=jV gz
   have hn:n.toNat<es.length:=by omega
   have hg:es.getD n.toNat []=es[n.toNat]:=by simp[W0,VT hn]
   have yz:es[n.toNat]?=some (es.getD n.toNat []):=by rw[hg];exact VT hn
   cases hx.vR with
   |nil A c=>simp at hn
   |sl _ b off k c u hS hkp wU hm xx hc h1 hr=>
    have hek:k=P.cellsOf e:=(xx _ _ yz).symm.trans hlen
    have ea:(⟨b,off,none⟩:Addr).add (n.toNat*P.cellsOf e)=⟨b,off+n.toNat*k,none⟩:=by rw[hek];unfold Addr.add;split<;>simp_all
    refine⟨_,.pointer (some ⟨b,off+n.toNat*k,none⟩),hK,fun w'=>?_,.c (.rp _ b (off+n.toNat*k) (fun j=>u n.toNat j) hS (fun j p hj=>hc _ _ j p yz hj) (fun j p hj=>h1 _ _ j p yz hj) fun j p hj=>hr _ _ j p yz hj)⟩
    simp[Instr.indexAt,asIntOf,run_underlying hu,a1,a2,run_sizeOf hi,hs,ea]
  ·rename_i l
   obtain⟨mb,hm,a1,a2,D8,hK⟩:=iy h
   obtain⟨B,hB,hb,rfl⟩:=hx.sI hk hm
   have hz:=hb.Zak (by omega)
   have gz:0<P.cellsOf e:=by rw[←D8,←hb.k];exact hb.pos
   obtain⟨i,hi,hs⟩:=jV gz
   have ea:(⟨B.b,0,none⟩:Addr).add (n.toNat*P.cellsOf e)=⟨B.b,n.toNat*B.k,none⟩:=by rw[hb.k,D8];unfold Addr.add;split<;>simp_all
   refine⟨_,.pointer (some ⟨B.b,n.toNat*B.k,none⟩),hK,fun w'=>?_,.be _ _ _ _ (lU hk hm) rfl fun B' kL=>by rw[hB]at kL;cases kL;exact⟨hz,rfl⟩⟩
   have a2':n<(B.n:Int):=by rw[hb.n];exact a2
   simp[qa.sv,hz,Instr.indexAt,asIntOf,run_underlying hu,a1,a2',run_sizeOf hi,hs,ea]
  ·rename_i l a b
   obtain⟨mb,hm,a1,a2,D8,hK⟩:=iy h
   obtain⟨B,hB,hb,A,c,rfl,Ba,hbB,hA⟩:=hx.Al hk hm
   obtain⟨hz,rfl,_,_⟩:=hA (by omega)
   have gz:0<P.cellsOf e:=by rw[←D8,←hb.k];exact hb.pos
   obtain⟨i,hi,hs⟩:=jV gz
   have ea:(⟨B.b,a*B.k,none⟩:Addr).add (n.toNat*P.cellsOf e)=⟨B.b,(a+n.toNat)*B.k,none⟩:=by rw[hb.k,D8,W6];unfold Addr.add;split<;>simp_all
   refine⟨_,.pointer (some ⟨B.b,(a+n.toNat)*B.k,none⟩),hK,fun w'=>?_,.be _ _ _ _ (lU hk hm) rfl fun B' kL=>by rw[hB]at kL;cases kL;exact⟨hz,rfl⟩⟩
   simp[Instr.indexAt,asIntOf,run_underlying hu,a1,a2,run_sizeOf hi,hs,ea]
  ·exact h.elim
 ·exact h.elim
def B9(s:ByteArray)(i:Nat):Int:=((s[i]?).map (·.toNat)).getD 0
def sJ(P:Program)(T:TypeId)(x i:PV)(K:PV→Prop):Prop:=
 match P.underlying T,x,i with
 |some .string,.v (.string s),.v (.int _ n)=>0≤n∧n<s.size∧K (.v (.int .u8 (B9 s n.toNat)))
 |_,_,_=>False
theorem GR{p q:PV}(hx:dL w E p x)(hy:dL w E q y){K:PV→Prop}(h:sJ P T p q K):
 ∃r v,K r∧(∀w',(Instr.index T x y).run P w'=.ok v w')∧dL w E r v:=by
 unfold sJ at h
 split at h
 ·rename_i s kk n hu
  obtain⟨rfl,_⟩:=hx.iG
  obtain⟨rfl,_⟩:=hy.iG
  obtain⟨a1,a2,hK⟩:=h
  have hn:n.toNat<s.size:=by omega
  refine⟨_,.int .u8 (B9 s n.toNat),hK,fun w'=>?_,.c (.v _ rfl)⟩
  simp[Instr.index,asIntOf,run_underlying hu,a1,B9,hn]
 ·exact h.elim
def Jw(i:Nat)(x:PV)(K:PV→Prop):Prop:=
 match x with
 |.tu vs=>match vs[i]? with
  |some p=>K p
  |none=>False
 |_=>False
theorem Ls{p:PV}(hx:dL w E p x){K:PV→Prop}(h:Jw i p K):∃r v,K r∧(∀w',(Instr.extract x i).run P w'=.ok v w')∧dL w E r v:=by
 unfold Jw at h
 split at h
 ·rename_i vs
  split at h
  ·rename_i q hq
   obtain⟨us,rfl,hl,hr⟩:=hx.xV
   have hi:i<us.size:=by rw[hl];exact(VU.1 hq).1
   exact⟨q,us[i],h,fun w'=>by simp[Instr.extract,V9 hi],hr i q _ hq (V9 hi)⟩
  ·exact h.elim
 ·exact h.elim
def wZ(P:Program)(m:Mem)(T:TypeId)(x:PV)(K:PV→Prop):Prop:=
 match P.underlying T,x with
 |some .string,.v (.string s)=>K (.v (.int .i64 s.size))
 |some (.slice _),.v (.slice none n _)=>K (.v (.int .i64 n))
 |some (.slice _),.sl es=>K (.v (.int .i64 es.length))
 |some (.slice _),.ms l=>live m l fun mb=>K (.v (.int .i64 mb.es.length))
 |some (.slice _),.ss l a b=>live m l fun _=>K (.v (.int .i64 (b-a:Nat)))
 |_,_=>False
theorem Lu(hk:Ok w0 O E w m){T ty:TypeId}{p:PV}(hx:dL w E p x){K:PV→Prop}(h:wZ P m T p K):∃r v,K r∧(∀w',(Builtin.len_ #[T] ty #[x]).run P w'=.ok v w')∧dL w E r v:=by
 unfold wZ at h
 split at h
 ·rename_i s hu
  obtain⟨rfl,_⟩:=hx.iG
  exact⟨_,_,h,fun w'=>by simp[Builtin.len_,run_underlying hu,goInt],.c (.v _ rfl)⟩
 ·rename_i e n c hu
  obtain⟨rfl,_⟩:=hx.iG
  exact⟨_,_,h,fun w'=>by simp[Builtin.len_,run_underlying hu,goInt],.c (.v _ rfl)⟩
 ·rename_i e es hu
  cases hx.vR with
  |nil A c=>exact⟨_,_,h,fun w'=>by simp[Builtin.len_,run_underlying hu,goInt],.c (.v _ rfl)⟩
  |sl=>exact⟨_,_,h,fun w'=>by simp[Builtin.len_,run_underlying hu,goInt],.c (.v _ rfl)⟩
 ·rename_i e l hu
  obtain⟨mb,hm,hK⟩:=iy h
  obtain⟨B,hB,hb,rfl⟩:=hx.sI hk hm
  refine⟨_,_,hK,fun w'=>?_,.c (.v _ rfl)⟩
  cases hz:B.z with
  |true=>simp[qa.sv,hz,Builtin.len_,run_underlying hu,goInt,hb.nil hz]
  |false=>simp[qa.sv,hz,Builtin.len_,run_underlying hu,goInt,hb.n]
 ·rename_i e l a b hu
  obtain⟨mb,hm,hK⟩:=iy h
  obtain⟨B,hB,hb,A,c,rfl,_,_,_⟩:=hx.Al hk hm
  exact⟨_,_,hK,fun w'=>by simp[Builtin.len_,run_underlying hu,goInt],.c (.v _ rfl)⟩
 ·exact h.elim
end
def pa(w:World)(E:Env)(cs:List PV)(a:Array Value):Prop:=
 a.size=cs.length∧∀(j:Nat) (p:PV),cs[j]?=some p→∃x,a[j]?=some x∧x.oneCell'=true∧dL w E p x
def w8(cs:List PV)(off:Nat)(qs:List PV):List PV:=cs.take off++qs++cs.drop (off+qs.length)
def w9(place:Nat→Option (Nat×Nat)):List PV→List (Nat×PV)→Option (List PV)
 |cs,[]=>some cs
 |cs,(i,p)::rest=>match place i,pc p with
  |some (off,size),some qs=>if qs.length=size∧off+qs.length≤cs.length then w9 place (w8 cs off qs) rest else none
  |_,_=>none
section
variable {w:World} {O:Nat→Prop} {E:Env} {w0:World} {m:Mem} {P:Program}
theorem vQ{cs qs:List PV}(h:off+qs.length≤cs.length):(w8 cs off qs).length=cs.length:=by
 simp only[w8,V2,V8,WK];omega
theorem Dw{cs qs:List PV}(h:off+qs.length≤cs.length)(j:Nat):(w8 cs off qs)[j]?=if off≤j∧j<off+qs.length then qs[j-off]? else cs[j]?:=by
 have hl:(cs.take off).length=off:=by rw[V8];omega
 unfold w8
 rw[Xb]
 rcases WB j off with h1|h1
 ·rw[Wd (by omega),WR h1,if_neg (by omega)]
 ·rw[We (by omega),hl]
  rcases WB j (off+qs.length)with h2|h2
  ·rw[Wd (by omega),if_pos ⟨h1,h2⟩]
  ·rw[We (by omega),WE,if_neg (by omega)]
   congr 1;omega
theorem Oe(qs:List Value):∀(i off:Nat) (a:Array Value),((qs.zipIdx i).foldl (fun cs (c,j)=>cs.setIfInBounds (off+j) c) a).size=a.size∧
 ∀j,((qs.zipIdx i).foldl (fun cs (c,j)=>cs.setIfInBounds (off+j) c) a)[j]?=if off+i≤j∧j<off+i+qs.length∧j<a.size then qs[j-(off+i)]? else a[j]?:=by
 induction qs with
 |nil=>intro i off a;exact⟨rfl,fun j=>by simp;intro h1 h2;omega⟩
 |cons q qs ih=>
  intro i off a
  simp only[List.zipIdx_cons,List.foldl_cons]
  obtain⟨h1,h2⟩:=ih (i+1) off (a.setIfInBounds (off+i) q)
  refine⟨by rw[h1];simp,fun j=>?_⟩
  rw[h2 j]
  simp only[Array.size_setIfInBounds,VX]
  by_cases e:j=off+i
  ·subst e
   rw[if_neg (by omega)]
   by_cases hs:off+i<a.size
   ·rw[if_pos (by omega),Array.getElem?_setIfInBounds_self_of_lt hs];simp
   ·rw[if_neg (by omega),Array.getElem?_eq_none (by simp;omega),Array.getElem?_eq_none (by omega)]
  ·by_cases c:off+(i+1)≤j∧j<off+(i+1)+qs.length∧j<a.size
   ·rw[if_pos c,if_pos (by omega)]
    have:j-(off+i)=(j-(off+(i+1)))+1:=by omega
    rw[this,List.getElem?_cons_succ]
   ·rw[if_neg c,if_neg (by omega),Array.getElem?_setIfInBounds_ne (fun h=>e h.symm)]
theorem Cs{place:Nat→Option (Nat×Nat)}:∀(ps:List (Nat×PV)) (vs:List (Nat×Value)) (cs pS:List PV) (a:Array Value),pa w E cs a→w9 place cs ps=some pS→
 ps.length=vs.length→(∀(j i:Nat) (p:PV),ps[j]?=some (i,p)→∃x,vs[j]?=some (i,x)∧dL w E p x)→∃a',Instr.fill place a vs=some a'∧pa w E pS a'
 | [],[],cs,pS,a,h,hf,_,_=>by
  simp only[w9,V1]at hf
  subst hf
  exact⟨a,rfl,h⟩
 | [],_::_,_,_,_,_,_,hl,_=>by simp at hl
 |_::_,[],_,_,_,_,_,hl,_=>by simp at hl
 |(i,p)::ps,(i',x)::vs,cs,pS,a,h,hf,hl,hr=>by
  obtain⟨x',rQ,sU⟩:=hr 0 i p rfl
  simp only[List.getElem?_cons_zero,V1,Prod.mk.injEq]at rQ
  obtain⟨rfl,rfl⟩:=rQ
  simp only[w9]at hf
  split at hf
  ·rename_i off size qs hp hq
   simp only[W1]at hf
   obtain⟨⟨h1,h2⟩,hf⟩:=hf
   obtain⟨c1,c2⟩:=GX sU hq
   have ZcZ:¬((x.cells.size≠size ||off+x.cells.size > a.size)=true):=by
    rw[c1,h1,h.1];simp;omega
   obtain⟨f1,f2⟩:=Oe x.cells.toList 0 off a
   have e:x.cells.zipIdx.foldl (fun cs (x:Value×Nat)=>cs.setIfInBounds (off+x.2) x.1) a=(x.cells.toList.zipIdx 0).foldl (fun cs (c,j)=>cs.setIfInBounds (off+j) c) a:=by
    rw[←Array.foldl_toList,Array.toList_zipIdx]
   have Gq:pa w E (w8 cs off qs) ((x.cells.toList.zipIdx 0).foldl (fun cs (c,j)=>cs.setIfInBounds (off+j) c) a):=by
    refine⟨by rw[f1,h.1,vQ h2],fun j q hj=>?_⟩
    rw[Dw h2]at hj
    rw[f2 j,Nat.add_zero]
    have xy:∀{l:List PV},l[j]?=some q→j<l.length:=fun h=>(VU.1 h).1
    by_cases c:off≤j∧j<off+qs.length
    ·rw[if_pos c]at hj
     obtain⟨y,y1,y2,y3⟩:=c2 _ q hj
     refine⟨y,?_,y2,y3⟩
     rw[if_pos ⟨c.1,by rw[Wk,c1];exact c.2,by rw[h.1];omega⟩]
     simpa using y1
    ·rw[if_neg c]at hj
     obtain⟨y,y1,y2,y3⟩:=h.2 j q hj
     refine⟨y,?_,y2,y3⟩
     rw[if_neg (by rw[Wk,c1];omega)]
     exact y1
   obtain⟨a',e1,e2⟩:=Cs ps vs _ pS _ Gq hf (by simpa using hl) fun j i p hj=>by
    obtain⟨x,hx,hxr⟩:=hr (j+1) i p (by simpa using hj)
    exact⟨x,by simpa using hx,hxr⟩
   refine⟨a',?_,e2⟩
   simp only[Instr.fill,hp,ZcZ,if_false,Bool.false_eq_true]
   rw[←e1,←e]
  ·cases hf
def zeroOf(P:Program)(t:TypeId):Option Value:=(P.info? t).bind (·.zero)
def pz(P:Program)(t:TypeId):Option (List PV):=(zeroOf P t).bind fun z=>pc (Vd z)
theorem Ac{cs:List PV}(h:pz P t=some cs):∃i z,P.info? t=some i∧i.zero=some z∧pa w E cs z.cells:=by
 unfold pz zeroOf at h
 cases hi:P.info? t with
 |none=>simp[hi]at h
 |some i=>
  cases hz:i.zero with
  |none=>simp[hi,hz]at h
  |some z=>
   simp only[hi,hz,VS]at h
   exact⟨i,z,rfl,hz,GX (JA z) h⟩
theorem Du{i:TypeInfo}{z:Value}(hi:P.info? t=some i)(hz:i.zero=some z)(w':World):(zeroValue t).run P w'=.ok z w':=by
 simp[zeroValue,typeInfo,hi,hz]
def vI(P:Program)(T:TypeId)(ps:List (Nat×PV))(K:PV→Prop):Prop:=
 match P.underlying T with
 |some (.struct fs)=>(∀fd∈fs.toList,0<P.cellsOf fd.type)∧match pz P T with
  |some zc=>match w9 (fun i=>(fs[i]?).map fun fd=>(fd.offset,P.cellsOf fd.type)) zc ps with
   |some cs=>K (.ag cs)
   |none=>False
  |none=>False
 |_=>False
theorem pa.ag{cs:List PV}{a:Array Value}(h:pa w E cs a):dL w E (.ag cs) (.agg a):=by
 refine .ag cs a h.1 (fun j x hx=>?_) fun j p x hp hx=>?_
 ·have hj:j<cs.length:=by rw[←h.1];exact(V6.1 hx).1
  obtain⟨y,h1,h2,_⟩:=h.2 j _ (VT hj)
  rw[hx]at h1;cases h1;exact h2
 ·obtain⟨y,h1,_,h3⟩:=h.2 j p hp
  rw[hx]at h1;cases h1;exact h3
theorem run_places{fs:Array Field}(h:∀fd∈fs.toList,0<P.cellsOf fd.type)(w':World):
 (fs.mapM fun(f:Field)=>(do pure (f.offset,←sizeOf f.type):Sem (Nat×Nat))).run P w'=.ok (fs.map fun fd=>(fd.offset,P.cellsOf fd.type)) w':=by
 rw[Array.mapM_eq_mapM_toList]
 have key:∀l:List Field,(∀fd∈l,0<P.cellsOf fd.type)→(l.mapM fun(f:Field)=>(do pure (f.offset,←sizeOf f.type):Sem (Nat×Nat))).run P w'=.ok (l.map fun fd=>(fd.offset,P.cellsOf fd.type)) w':=by
  intro l
  induction l with
  |nil=>intro _;simp
  |cons f l ih=>
   intro hl
   obtain⟨i,hi,hs⟩:=jV (hl f (by simp))
   have:=ih fun fd hfd=>hl fd (by simp[hfd])
   simp only[List.mapM_cons,Sem.run_bind,run_sizeOf hi,Result.andThen_ok,Sem.run_pure,this,hs,List.map_cons]
 have k:=key fs.toList h
 rw[Sem.run_map]
 refine(congrArg (fun r=>Result.andThen r fun(a:List (Nat×Nat)) w'=>Result.ok a.toArray w') k).trans ?_
 show Result.ok _ _=_
 congr 1
 exact Array.ext' (by simp)
theorem GM{ps:List (Nat×PV)}{vs:Array (Nat×Value)}(hl:ps.length=vs.size)(hr:∀(j i:Nat) (p:PV),ps[j]?=some (i,p)→∃x,vs[j]?=some (i,x)∧dL w E p x){K:PV→Prop}(h:vI P T ps K):
 ∃r v,K r∧(∀w',(Instr.build T vs).run P w'=.ok v w')∧dL w E r v:=by
 unfold vI at h
 split at h
 ·rename_i fs hu
  obtain⟨gz,h⟩:=h
  split at h
  ·rename_i zc hz
   split at h
   ·rename_i cs hf
    obtain⟨i,z,hi,tT,hc⟩:=Ac (w:=w) (E:=E) hz
    obtain⟨a',e1,e2⟩:=Cs ps vs.toList zc cs z.cells hc hf (by simpa using hl) fun j i p hj=>by simpa using hr j i p hj
    refine⟨_,.agg a',h,fun w'=>?_,e2.ag⟩
    simp only[Instr.build,Sem.run_bind,Du hi tT,run_underlying hu,Result.andThen_ok,run_places gz w']
    simp[e1]
   ·exact h.elim
  ·exact h.elim
 ·exact h.elim
end
section
variable {w:World} {O:Nat→Prop} {E:Env} {w0:World} {m:Mem} {P:Program}
def u9(P:Program)(w0:World)(O:Nat→Prop)(E:Env)(w:World)(ν:Nat)(s:Sem Value)(p:PV)(m':Mem):Prop:=
 ∃x w' E',s.run P w=.ok x w'∧Ok w0 O E' w' m'∧Ext w w' E E'∧dL w' E' p x∧∀l,E'.used l→E.used l∨l=ν
theorem F9{cs:List PV}{a:Array Value}(h:pa w E cs a)(T:TK):∀(i:Nat) (ds:List PV) (j:Nat) (p:PV),(MB.mk T cs.length [cs]).es[i]?=some ds→ds[j]?=some p→
 ∃x,a[i*cs.length+j]?=some x∧x.oneCell'=true∧dL w E p x:=by
 intro i ds j p hi hj
 cases i with
 |zero=>
  obtain rfl:cs=ds:=by simpa using hi
  simpa using h.2 j p hj
 |succ i=>simp at hi
theorem zE(hk:Ok w0 O E w m)(vz:¬E.used ν){mb:MB}{a:Array Value}(hkd:mb.T.kd=none)(gz:0<mb.k)(hn:mb.es.length≤c)(hc:c≤maxLen)(xx:∀(i:Nat) (cs:List PV),mb.es[i]?=some cs→cs.length=mb.k)(hs:a.size=c*mb.k)
 (hr:∀(i:Nat) (cs:List PV) (j:Nat) (p:PV),mb.es[i]?=some cs→cs[j]?=some p→∃x,a[i*mb.k+j]?=some x∧x.oneCell'=true∧dL w E p x):
 ∃E',Ok w0 O E' (w.alloc (.cells a mb.T.t (0,0))) (nV m ν mb)∧Ext w (w.alloc (.cells a mb.T.t (0,0))) E E'∧
  dL (w.alloc (.cells a mb.T.t (0,0))) E' (.ms ν) (.slice (some ⟨w.heap.size,0,none⟩) mb.es.length c)∧
  dL (w.alloc (.cells a mb.T.t (0,0))) E' (.be ν 0 0) (.pointer (some ⟨w.heap.size,0,none⟩))∧∀l,E'.used l→E.used l∨l=ν:=by
 have Bu:(w.alloc (.cells a mb.T.t (0,0))).heap.size=w.heap.size+1:=by show(w.heap.push _).size=_;simp
 obtain⟨h1,h2⟩:=hk.new (w':=w.alloc (.cells a mb.T.t (0,0))) vz mb ⟨w.heap.size,c,mb.es.length,mb.k,mb.T.t,false⟩ rfl rfl rfl (by omega) (fun b hb=>heap_alloc_old _ _ hb) (fun _=>⟨V3 _,by simp only;omega⟩)
  fun hx=>⟨rfl,rfl,rfl,gz,hn,hc,xx,(fun h=>by cases h),fun _=>⟨a,heap_alloc_new w _,hs,fun i cs j p hi hj=>by
   obtain⟨x,x1,x2,x3⟩:=hr i cs j p hi hj
   exact⟨x,x1,x2,x3.ext hx⟩⟩,fun T hT=>by rw[hkd]at hT;cases hT⟩
 refine⟨_,h1,h2,.ms _ _ (.inl rfl) rfl fun B hB=>?_,.be _ _ _ _ (.inl rfl) rfl fun B hB=>?_,fun l hl=>hl.symm⟩
 ·have e:B=⟨w.heap.size,c,mb.es.length,mb.k,mb.T.t,false⟩:=by simpa[Env.add,eq_comm]using hB
  subst e;rfl
 ·have e:B=⟨w.heap.size,c,mb.es.length,mb.k,mb.T.t,false⟩:=by simpa[Env.add,eq_comm]using hB
  subst e;simp
def zU(ν:Nat)(m:Mem)(T:TypeId)(cs:Option (List PV))(K:PV→Mem→Prop):Prop:=
 match cs with
 |some (c::cs)=>K (.be ν 0 0) (nV m ν ⟨T,(c::cs).length,[c::cs]⟩)
 |_=>False
theorem CY(hk:Ok w0 O E w m)(vz:¬E.used ν){cs:List PV}(hc:pa w E cs x.cells){K:PV→Mem→Prop}(h:zU ν m T (some cs) K):∃p m',K p m'∧u9 P w0 O E w ν (do pure (.pointer (some (←newVar T x)))) p m':=by
 unfold zU at h
 split at h
 ·rename_i c pS e
  obtain rfl:cs=c::pS:=by simpa using e
  obtain⟨E',h1,h2,_,h4,h5⟩:=zE (mb:=⟨T,(c::pS).length,[c::pS]⟩) (c:=1) hk vz rfl (by simp) (by simp) (by unfold maxLen;omega) (fun i ds hi=>by
   cases i with
   |zero=>obtain rfl:(c::pS)=ds:=by simpa using hi
          rfl
   |succ i=>simp at hi) (by rw[hc.1];simp) (F9 hc T)
  exact⟨_,_,h,.pointer (some ⟨w.heap.size,0,none⟩),_,E',by simp[newVar,newRow],h1,h2,h4,h5⟩
 ·exact h.elim
theorem Lr(hk:Ok w0 O E w m)(vz:¬E.used ν){p:PV}(hx:dL w E p x){K:PV→Mem→Prop}(h:zU ν m T (pc p) K):∃p m',K p m'∧u9 P w0 O E w ν (Instr.box T x) p m':=by
 cases hp:pc p with
 |none=>rw[hp]at h;exact h.elim
 |some cs=>rw[hp]at h;exact CY hk vz (GX hx hp) h
theorem GK(hk:Ok w0 O E w m)(vz:¬E.used ν){K:PV→Mem→Prop}(h:zU ν m T (pz P T) K):∃p m',K p m'∧u9 P w0 O E w ν (Instr.alloc T true (.tuple #[])) p m':=by
 cases hp:pz P T with
 |none=>rw[hp]at h;exact h.elim
 |some cs=>
  rw[hp]at h
  obtain⟨i,z,hi,hz,hc⟩:=Ac (w:=w) (E:=E) hp
  obtain⟨p,m',hK,x,w',E',jh,r⟩:=CY (P:=P) hk vz hc h
  refine⟨p,m',hK,x,w',E',?_,r⟩
  simp only[Instr.alloc,Sem.run_bind,Du hi hz,Result.andThen_ok]
  exact jh
def xk(zc:List PV):Nat→List PV
 |0=>[]
 |n+1=>zc++xk zc n
def chunk(k:Nat):Nat→List PV→List (List PV)
 |0,_=>[]
 |n+1,cs=>cs.take k::chunk k n (cs.drop k)
theorem uP(zc:List PV)(n:Nat):(xk zc n).length=n*zc.length:=by
 induction n with
 |zero=>simp[xk]
 |succ n ih=>simp only[xk,V2,ih,WX];omega
theorem PI{zc:List PV}{p:PV}(h:(xk zc n)[j]?=some p):zc[j % zc.length]?=some p:=by
 induction n generalizing j with
 |zero=>simp[xk]at h
 |succ n ih=>
  simp only[xk]at h
  rcases WB j zc.length with hj|hj
  ·rw[Wd hj]at h
   rwa[Nat.mod_eq_of_lt hj]
  ·rw[We hj]at h
   have:=ih h
   rwa[Nat.mod_eq_sub_mod hj]
theorem uw(k n:Nat)(cs:List PV):(chunk k n cs).length=n:=by
 induction n generalizing cs with
 |zero=>rfl
 |succ n ih=>simp[chunk,ih]
theorem EB{cs ds:List PV}(h:(chunk k n cs)[i]?=some ds):ds=(cs.drop (i*k)).take k:=by
 induction n generalizing cs i with
 |zero=>simp[chunk]at h
 |succ n ih=>
  cases i with
  |zero=>simpa[chunk,eq_comm]using h
  |succ i=>
   have:=ih (i:=i) (by simpa[chunk]using h)
   rw[this,List.drop_drop,WX,Yn]
theorem N2{cs:List PV}{a:Array Value}(hk:0<k)(h:pa w E cs a)(hl:cs.length=n*k):(∀(i:Nat) (ds:List PV),(chunk k n cs)[i]?=some ds→ds.length=k)∧
 ∀(i:Nat) (ds:List PV) (j:Nat) (p:PV),(chunk k n cs)[i]?=some ds→ds[j]?=some p→∃x,a[i*k+j]?=some x∧x.oneCell'=true∧dL w E p x:=by
 have bF:∀{i:Nat} {ds:List PV},(chunk k n cs)[i]?=some ds→i<n:=fun hi=>by
  have:=(VU.1 hi).1
  rwa[uw]at this
 refine⟨fun i ds hi=>?_,fun i ds j p hi hj=>?_⟩
 ·have uC:=bF hi
  rw[EB hi,V8,WK,hl]
  have:(i+1)*k≤n*k:=Wu k uC
  rw[WX]at this
  omega
 ·rw[EB hi,WN]at hj
  split at hj
  ·rw[WE]at hj
   exact h.2 _ p hj
  ·cases hj
def mR(P:Program)(ν:Nat)(m:Mem)(T:TypeId)(n:Nat)(ps:List (Nat×PV))(K:PV→Mem→Prop):Prop:=
 match P.underlying T with
 |some (.slice e)=>match pz P e with
  |some zc=>0<P.cellsOf e∧zc.length=P.cellsOf e∧n*P.cellsOf e≤16777216∧match w9 (fun i=>some (i*P.cellsOf e,P.cellsOf e)) (xk zc n) ps with
   |some cs=>K (.ms ν) (nV m ν ⟨e,P.cellsOf e,chunk (P.cellsOf e) n cs⟩)
   |none=>False
  |none=>False
 |_=>False
theorem yu{place:Nat→Option (Nat×Nat)}:∀(ps:List (Nat×PV)) (cs pS:List PV),w9 place cs ps=some pS→pS.length=cs.length
 | [],cs,pS,h=>by simp only[w9,V1]at h;rw[h]
 |(i,p)::ps,cs,pS,h=>by
  simp only[w9]at h
  split at h
  ·simp only[W1]at h
   rw[yu ps _ _ h.2,vQ h.1.2]
  ·cases h
theorem yV(hk:Ok w0 O E w m)(vz:¬E.used ν){ps:List (Nat×PV)}{vs:Array (Nat×Value)}(hl:ps.length=vs.size)
 (hr:∀(j i:Nat) (p:PV),ps[j]?=some (i,p)→∃x,vs[j]?=some (i,x)∧dL w E p x) {K:PV→Mem→Prop} (h:mR P ν m T n ps K):∃p m',K p m'∧u9 P w0 O E w ν (Instr.buildSlice T n vs) p m':=by
 unfold mR at h
 split at h
 ·rename_i e hu
  split at h
  ·rename_i zc hz
   obtain⟨gz,uZ,zG,h⟩:=h
   split at h
   ·rename_i cs hf
    obtain⟨i,z,hi,tT,hc⟩:=Ac (w:=w) (E:=E) hz
    have K0:i.size=P.cellsOf e:=by simp[Program.cellsOf,hi]
    have h0:pa w E (xk zc n) ((Yl (n*i.size)).map (z.cells[· % z.cells.size]!)):=by
     refine⟨by rw[uP,uZ,K0];simp,fun j p hj=>?_⟩
     have xy:=(VU.1 hj).1
     rw[uP,uZ]at xy
     obtain⟨x,x1,x2,x3⟩:=hc.2 _ p (PI hj)
     refine⟨x,?_,x2,x3⟩
     rw[←hc.1]at x1
     have bF:=(V6.1 x1).1
     rw[X6,Array.getElem?_range,if_pos (by rw[K0];exact xy)]
     simp only[Wr,V1]
     rw[getElem!_pos z.cells _ bF]
     exact(V6.1 x1).2
    obtain⟨a',e1,e2⟩:=Cs ps vs.toList _ cs _ h0 hf (by simpa using hl) fun j i p hj=>by simpa using hr j i p hj
    have qD:cs.length=n*P.cellsOf e:=by rw[yu _ _ _ hf,uP,uZ]
    obtain⟨r1,r2⟩:=N2 gz e2 qD
    obtain⟨E',h1,h2,h3,_,h5⟩:=zE (mb:=⟨e,P.cellsOf e,chunk (P.cellsOf e) n cs⟩) (c:=n) hk vz rfl gz (by simp[uw]) (by
     unfold maxLen
     have:n*1≤n*P.cellsOf e:=Nat.mul_le_mul_left n gz
     omega) r1 (by rw[e2.1,qD]) r2
    simp only[uw]at h3
    refine⟨_,_,h,_,_,E',?_,h1,h2,h3,h5⟩
    have e3:Instr.fill (fun j=>some (j*i.size,i.size)) ((Yl (n*i.size)).map (z.cells[· % z.cells.size]!)) vs.toList=some a':=by rw[←e1,K0]
    have hnb:¬n*i.size > 2 ^ 24:=by rw[K0];omega
    by_cases hn0:n*i.size=0
    ·have e4:(Yl (n*i.size)).map (z.cells[· % z.cells.size]!)=(Yl (n*i.size)).map ((#[]:Array Value)[· % (#[]:Array Value).size]!):=by
      rw[hn0];simp
     rw[e4]at e3
     simp only[Instr.buildSlice,Sem.run_bind,run_underlying hu,Result.andThen_ok,run_sizeOf hi,hnb,if_false,Sem.run_ite,hn0,if_true,Sem.run_pure]
     rw[hn0]at e3
     simp only[e3]
     simp[newRow]
    ·simp only[Instr.buildSlice,Sem.run_bind,run_underlying hu,Result.andThen_ok,run_sizeOf hi,hnb,if_false,Sem.run_ite,hn0,Sem.run_pure,Du hi tT,e3]
     simp[newRow]
   ·exact h.elim
  ·exact h.elim
 ·exact h.elim
end
section
variable {w:World} {O:Nat→Prop} {E:Env} {w0:World} {m:Mem} {P:Program}
def vK(P:Program)(ν:Nat)(m:Mem)(T:TypeId)(l c:PV)(K:PV→Mem→Prop):Prop:=
 match P.underlying T,l,c with
 |some (.slice e),.v (.int .i64 n),.v (.int .i64 n')=>match pz P e with
  |some zc=>n=n'∧0≤n∧0<P.cellsOf e∧zc.length=P.cellsOf e∧n≤1099511627776∧P.bytesOf e*n≤140737488355328∧K (.ms ν) (nV m ν ⟨e,P.cellsOf e,WA n.toNat zc⟩)
  |none=>False
 |_,_,_=>False
theorem Jx(hk:Ok w0 O E w m)(vz:¬E.used ν){p q:PV}(hx:dL w E p x)(hy:dL w E q y){K:PV→Mem→Prop}(h:vK P ν m T p q K):∃p m',K p m'∧u9 P w0 O E w ν (Instr.makeSlice T x y) p m':=by
 unfold vK at h
 split at h
 ·rename_i e n n' hu
  obtain⟨rfl,_⟩:=hx.iG
  obtain⟨rfl,_⟩:=hy.iG
  split at h
  ·rename_i zc hz
   obtain⟨rfl,h0,gz,uZ,zG,mg,hK⟩:=h
   obtain⟨i,z,hi,tT,hc⟩:=Ac (w:=w) (E:=E) hz
   have K0:i.size=P.cellsOf e:=by simp[Program.cellsOf,hi]
   have hib:i.bytes=P.bytesOf e:=by simp[Program.bytesOf,hi]
   obtain⟨k,rfl⟩:∃k:Nat,n=(k:Int):=⟨n.toNat,by omega⟩
   have hkb:i.bytes*k≤281474976710656:=by
    rw[hib]
    have:((P.bytesOf e*k:Nat):Int)≤140737488355328:=by rw[Int.natCast_mul];exact mg
    omega
   have jh:=run_mk T e i z hu hi tT k hkb (by omega) w
   have CC:∀(i:Nat) (cs:List PV),(WA k zc)[i]?=some cs→i<k∧cs=zc:=by
    intro i cs hi
    have bF:=(VU.1 hi).1
    rw[Xz]at bF
    rw[XO,if_pos bF]at hi
    exact⟨bF,by simpa[eq_comm]using hi⟩
   obtain⟨E',h1,h2,h3,_,h5⟩:=zE (mb:=⟨e,P.cellsOf e,WA k zc⟩) (c:=k) (a:=madeCells z.cells (k*i.size)) hk vz rfl gz (by simp) (by unfold maxLen;omega)
    (fun i cs hi=>by rw[(CC i cs hi).2];exact uZ) (by rw[K0];simp[madeCells]) (fun i' cs j p lV hj=>by
     obtain⟨bF,rfl⟩:=CC i' cs lV
     obtain⟨x,x1,x2,x3⟩:=hc.2 j p hj
     refine⟨x,?_,x2,x3⟩
     have xy:j<P.cellsOf e:=by rw[←uZ];exact(VU.1 hj).1
     have hzs:z.cells.size=P.cellsOf e:=by rw[hc.1,uZ]
     have uC:i'*P.cellsOf e+j<k*i.size:=by
      rw[K0]
      have:(i'+1)*P.cellsOf e≤k*P.cellsOf e:=Wu _ bF
      rw[WX]at this
      omega
     have Zbf:(i'*P.cellsOf e+j) % z.cells.size=j:=by rw[hzs,Yn,Nat.add_mul_mod_self_right,Nat.mod_eq_of_lt xy]
     simp only[madeCells]
     rw[X6,Array.getElem?_range,if_pos uC]
     simp only[Wr,V1,Zbf]
     have Gp:=(V6.1 x1).1
     rw[getElem!_pos z.cells _ Gp]
     exact(V6.1 x1).2)
   simp only[Xz]at h3
   have Ui:K (.ms ν) (nV m ν ⟨e,P.cellsOf e,WA k zc⟩):=by simpa using hK
   exact⟨_,_,Ui,_,_,E',jh,h1,h2,h3,h5⟩
  ·exact h.elim
 ·exact h.elim
def vL(P:Program)(m:Mem)(T:TypeId)(a x:PV)(K:PV→Mem→Prop):Prop:=
 match a,pc x with
 |.be l i o,some qs=>live m l fun mb=>match mb.es[i]? with
  |some cs=>0<qs.length∧qs.length=P.cellsOf T∧o+qs.length≤cs.length∧K .ud (m.set l (some ⟨mb.T.st qs,mb.k,mb.es.set i (w8 cs o qs)⟩))
  |none=>False
 |_,_=>False
theorem Nq(l vs:List Value)(O:Nat)(h:O+vs.length≤l.length)(j:Nat):(l.take O++vs++l.drop (O+vs.length))[j]?=if O≤j∧j<O+vs.length then vs[j-O]? else l[j]?:=by
 have hl:(l.take O).length=O:=by rw[V8];omega
 rw[Xb]
 rcases WB j O with h1|h1
 ·rw[Wd (by omega),WR h1,if_neg (by omega)]
 ·rw[We (by omega),hl]
  rcases WB j (O+vs.length)with h2|h2
  ·rw[Wd (by omega),if_pos ⟨h1,h2⟩]
  ·rw[We (by omega),WE,if_neg (by omega)]
   congr 1;omega
theorem GV(hk:Ok w0 O E w m){p q:PV}(hx:dL w E p x)(hy:dL w E q y){K:PV→Mem→Prop}(h:vL P m T p q K):
 ∃m',K .ud m'∧∃w',(Instr.storeAt T x y).run P w=.ok () w'∧Ok w0 O E w' m'∧Ext w w' E E:=by
 unfold vL at h
 split at h
 ·rename_i l i o qs hq
  obtain⟨mb,hm,h⟩:=iy h
  split at h
  ·rename_i cs qF
   obtain⟨gz,hT,hle,hK⟩:=h
   obtain⟨B,hB,hb,hz,rfl⟩:=hx.BY hk hm
   obtain⟨c1,c2⟩:=GX hy hq
   obtain⟨ti,hti,hts⟩:=jV (P:=P) (t:=T) (by omega)
   obtain⟨cells,m1,m2,m3⟩:=hb.mem hz
   have qD:=hb.es i cs qF
   have uC:i<B.n:=by rw[hb.n];exact(VU.1 qF).1
   have ZeW:i*B.k+B.k≤B.c*B.k:=by
    have:(i+1)*B.k≤B.c*B.k:=Wu _ (Wq uC hb.nc)
    rwa[WX]at this
   have vu:∀v∈y.cells.toList,v.oneCell'=true:=by
    intro v hv
    obtain⟨j,hj⟩:=List.getElem?_of_mem hv
    have xy:j<qs.length:=by
     have:=(VU.1 hj).1
     rw[Wk,c1]at this
     exact this
    obtain⟨z,z1,z2,_⟩:=c2 j _ (VT xy)
    rw[Wh,z1]at hj
    cases hj
    exact z2
   have rD:=run_storeCells_at P B.b (i*B.k+o) B.T y.cells.toList 0 cells w m1 (by rw[Wk,c1,m2];omega) vu
   refine⟨_,hK,w.setRow B.b (cells.toList.take (i*B.k+o+0)++y.cells.toList++cells.toList.drop (i*B.k+o+0+y.cells.toList.length)).toArray,?_,?_⟩
   ·have Bu:¬y.cells.size≠ti.size:=by rw[c1,hT,hts];simp
    simp only[Instr.storeAt,Instr.sureAddr,storeVar,Sem.run_bind,Sem.run_pure,Result.andThen_ok,run_sizeOf hti,Bu,if_false]
    exact rD
   ·refine hk.put hB hz _ rfl rfl rfl (by simp[World.setRow]) (fun b iw=>setRow_other w B.b b _ iw) fun rQ=>?_
    ·have DV:(w8 cs o qs).length=cs.length:=vQ hle
     refine⟨hb.k,by rw[hb.n];simp,by rw[hb.T];exact(TK.ZdO _ _).symm,hb.pos,hb.nc,hb.cm,fun i' pS lV=>?_,fun h=>(by rw[hz]at h;cases h),fun _=>⟨_,setRow_heap w B.b cells _ B.T _ m1,?_,fun i' pS j pp lV hj=>?_⟩,fun T1 hT1 _ i' pS j es x lV hj iw hc=>?_⟩
     ·simp only at lV
      by_cases e:i'=i
      ·subst e
       rw[Wl (VU.1 qF).1]at lV
       simp only[V1]at lV
       rw[←lV,DV];exact qD
      ·rw[Wt (Ne.symm e)]at lV
       exact hb.es i' pS lV
     ·have h1:y.cells.toList.length=qs.length:=by rw[Wk,c1]
      simp only[List.size_toArray,V2,V8,WK,Wk,m2]
      rw[←c1]at hle
      omega
     ·simp only at lV
      have h1:y.cells.toList.length=qs.length:=by rw[Wk,c1]
      have hsg:=fun t=>Nq cells.toList y.cells.toList (i*B.k+o+0) (by simp only[Wk,c1,m2];omega) t
      by_cases e:i'=i
      ·subst e
       rw[Wl (VU.1 qF).1]at lV
       simp only[V1]at lV
       subst lV
       rw[Dw hle]at hj
       by_cases c:o≤j∧j<o+qs.length
       ·rw[if_pos c]at hj
        obtain⟨z,z1,z2,z3⟩:=c2 _ pp hj
        refine⟨z,?_,z2,z3.ext rQ⟩
        rw[Xv,hsg,if_pos (by rw[h1];omega)]
        rw[Wh,←z1]
        congr 1;omega
       ·rw[if_neg c]at hj
        obtain⟨z,z1,z2,z3⟩:=m3 i' cs j pp qF hj
        refine⟨z,?_,z2,z3.ext rQ⟩
        rw[Xv,hsg,if_neg (by rw[h1];omega),Wh]
        exact z1
      ·rw[Wt (Ne.symm e)]at lV
       obtain⟨z,z1,z2,z3⟩:=m3 i' pS j pp lV hj
       refine⟨z,?_,z2,z3.ext rQ⟩
       have xy:j<B.k:=by rw[←hb.es i' pS lV];exact(VU.1 hj).1
       rw[Xv,hsg,if_neg ?_,Wh]
       ·exact z1
       ·rw[h1]
        intro⟨g1,g2⟩
        rcases Nat.lt_or_gt_of_ne e with bF|zm
        ·have:(i'+1)*B.k≤i*B.k:=Wu _ bF
         rw[WX]at this
         omega
        ·have:(i+1)*B.k≤i'*B.k:=Wu _ zm
         rw[WX]at this
         omega
     ·simp only at lV
      obtain⟨Us,hns⟩:=TK.SX hT1
      have h1:y.cells.toList.length=qs.length:=by rw[Wk,c1]
      have hsg:=fun t=>Nq cells.toList y.cells.toList (i*B.k+o+0) (by simp only[Wk,c1,m2];omega) t
      rw[cell_of_row _ B.b _ _ B.T (0,0) (setRow_heap w B.b cells _ B.T _ m1),Xv,hsg]at hc
      have xL:∀TO,mb.es[i']?=some TO→TO[j]?=some (.sl es)→¬(i*B.k+o+0≤i'*B.k+j∧i'*B.k+j<i*B.k+o+0+y.cells.toList.length)→HQ (w.setRow B.b (cells.toList.take (i*B.k+o+0)++y.cells.toList++cells.toList.drop (i*B.k+o+0+y.cells.toList.length)).toArray) E T1 ((mb.T.st qs).t,i',j) es x:=by
       intro TO g1 g2 g3
       rw[if_neg g3,Wh]at hc
       rw[TK.ZdO]
       exact(hb.key T1 Us hz i' TO j es x g1 g2 iw (by rw[cell_of_row w B.b _ cells B.T (0,0) m1];exact hc)).ext rQ
      by_cases e:i'=i
      ·subst e
       rw[Wl (VU.1 qF).1]at lV
       simp only[V1]at lV
       subst lV
       rw[Dw hle]at hj
       by_cases c:o≤j∧j<o+qs.length
       ·rw[if_pos c]at hj
        exact absurd (GF hns hj) iw
       ·rw[if_neg c]at hj
        exact xL cs qF hj (by rw[h1];omega)
      ·rw[Wt (Ne.symm e)]at lV
       have xy:j<B.k:=by rw[←hb.es i' pS lV];exact(VU.1 hj).1
       refine xL pS lV hj ?_
       rw[h1]
       intro⟨g1,g2⟩
       rcases Nat.lt_or_gt_of_ne e with bF|zm
       ·have:(i'+1)*B.k≤i*B.k:=Wu _ bF
        rw[WX]at this
        omega
       ·have:(i+1)*B.k≤i'*B.k:=Wu _ zm
        rw[WX]at this
        omega
  ·exact h.elim
 ·exact h.elim
end
end Go.Proofs.YtbalgkakkoocjaaGreat
