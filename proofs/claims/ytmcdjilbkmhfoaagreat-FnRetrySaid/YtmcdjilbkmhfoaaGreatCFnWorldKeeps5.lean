/- A part of the proof of the statement in the last file of this claim: texts on the language of the program and on its functions. No condition. -/
import Derived.Test.YtmcdjilbkmhfoaaGreatCFnWorldKeeps1
import Derived.Laws.AppendOwnNone
import Derived.Test.YtmcdjilbkmhfoaaGreatCFnWorldKeeps4
import Derived.Maps.OwnSet
import Derived.StringKeys
import Derived.Deep.AppendLies
import Derived.Shelf.Small.Bits
import Derived.Shelf.Small.Strs
import Derived.Shelf.Strconv.Itoa0
import Derived.Shelf.Sort.Plain
import Derived.Ground.GgsProg
import Derived.Shelf.GgSortFunc.Insertion
import Derived.Shelf.GgSortFunc.InsertionK
import Derived.Shelf.GgSortFunc.Tiny
import Derived.Shelf.GgSortFunc.Compose
import Derived.Ground.GgtProg
import Derived.Shelf.GgSortMore.Stable
import Derived.Shelf.Slices.In.SortNone
import Derived.Shelf.Slices.In.SortNone2
import Derived.Test.YtmcdjilbkmhfoaaGreatProg
import Derived.Sort.OwnSorted
namespace Go.Proofs.YtmcdjilbkmhfoaaGreat
set_option maxRecDepth 10000
open Go.RowKit
structure ElT (P:Program) (t e:TypeId) (k bytes:Nat):Prop where
 ht:P.underlying t=some (.slice e)
 info:∃ i z,P.info? e=some i∧i.zero=some z∧i.size=k∧i.bytes=bytes∧z.cells.size=k
theorem ElT.mk' {P:Program} {t e:TypeId} {k bytes:Nat} {z:Value} (ht:P.underlying t=some (.slice e)) (h:(P.info? e).map (fun i=>(i.zero,i.size,i.bytes))=some (some z,k,bytes)) (hz:z.cells.size=k):ElT P t e k bytes:=by
 obtain ⟨i,h1,h2,h3,h4⟩:=info_parts h
 exact ⟨ht,i,z,h1,h2,h3,h4,hz⟩
theorem Own.form {α:Type} [Enc α] {w:World} {B E:Nat} {v:Value} {xs:List α} (h:Own w B E v xs):∃ A c,v=.slice A xs.length c∧xs.length≤c∧c≤maxLen:=by
 rcases h.2 with ⟨hv,h0⟩ | ⟨g,cap,cur,hv,_,_,hnc,hcm,_⟩
 ·exact ⟨none,0,by rw [hv,h0],by omega,by unfold maxLen; omega⟩
 ·exact ⟨_,cap,hv,hnc,hcm⟩
theorem Own.nil_ {α:Type} [Enc α] (w:World) (B E:Nat):Own w B E (.slice none 0 0) ([]:List α):=World.ownsRow_nil _ _ _ _
theorem Own.empty {α:Type} [Enc α] (w:World) (B E c:Nat) (cur:Array Value) (hB:B≤w.heap.size) (hm:c≤maxLen) (hs:cur.size=c*Enc.k α):
 Own (w.alloc (.cells cur E)) B E (.slice (some ⟨w.heap.size,0,none⟩) 0 c) ([]:List α):=World.ownsRow_made w cur c hB hm hs
theorem Own.more {α:Type} [Enc α] {w:World} {B B' E:Nat} {v:Value} {xs:List α} (h:Own w B E v xs) (hB:B'≤B):Own w B' E v xs:=by
 refine ⟨h.1,?_⟩
 rcases h.2 with h2 | ⟨g,cap,cur,hv,hb,r⟩
 ·exact .inl h2
 ·exact .inr ⟨g,cap,cur,hv,by omega,r⟩
theorem Own.down {α:Type} [Enc α] {w0 W w:World} {E:Nat} {v:Value} {xs:List α} (h:Own w W.heap.size E v xs) (hu:Up w0 W):Own w w0.heap.size E v xs:=h.more hu.size
theorem Up.le {w0 w:World} (h:Up w0 w):w0.heap.size≤w.heap.size:=h.size
theorem Own.grown {α:Type} [Enc α] {w w':World} {B E:Nat} {v:Value} {xs:List α} {row:Option Nat} (h:Own w B E v xs) (hg:w.grownBy w' row) (hne:v.ownBlock=none∨v.ownBlock≠row):Own w' B E v xs:=
 World.ownsRow.kept h hg hne
theorem Rd.one {α:Type} [Enc α] (w:World) (T:TypeId) (x:α) (B:Nat) (hB:w.heap.size<B):Rd (w.alloc (.cells (Enc.cells x).toArray T)) B (some ⟨w.heap.size,0,none⟩) [x]:=by
 intro _
 refine ⟨w.heap.size,0,rfl,hB,fun j u hu=>?_⟩
 rw [Zug] at hu
 rw [Nat.zero_add,cell_of_row _ _ j _ T (0,0) (heap_alloc_new w _)]
 simpa using hu
def Zfm (w0 w:World) (B E k:Nat) (g n cap m:Nat) (ys:List Value):Prop:=
 ∃ cs:List Value,w.ownsRow B E k (.slice (some ⟨g,0,none⟩) n cap) n cs∧cs.take m=ys.take m∧w0.grownBy w (some g)
theorem Zfm.start {w:World} {B E k g n cap:Nat} {cs ys:List Value} (h:w.ownsRow B E k (.slice (some ⟨g,0,none⟩) n cap) n cs):Zfm w w B E k g n cap 0 ys:=
 ⟨cs,h,by simp,⟨rfl,rfl,rfl,Nat.le_refl _,fun _ _ _=>rfl⟩⟩
theorem Zfm.cell {w0 w:World} {B E k g n cap m:Nat} {ys:List Value} (h:Zfm w0 w B E k g n cap m ys) {j:Nat} (hj:j<n*k):∃ u,w.cell? ⟨g,j,none⟩=some u:=by
 obtain ⟨cs,ho,_⟩:=h
 have hl:cs.length=n*k:=ho.1
 exact ⟨cs[j]'(by omega),by rw [ho.cellAt j hj]; exact List.getElem?_eq_getElem _⟩
theorem Zfm.frozen {w0 w:World} {B E k g n cap m:Nat} {ys:List Value} (h:Zfm w0 w B E k g n cap m ys) (j:Nat):w.frozen? ⟨g,j,none⟩=false:=by
 obtain ⟨cs,ho,_⟩:=h
 exact ho.frozenAt j
theorem Zl2 {a b c:World} {row:Option Nat} (h:a.grownBy b row) (k:b.grownBy c row):a.grownBy c row:=
 ⟨k.os.trans h.os,k.tape.trans h.tape,k.output.trans h.output,Nat.le_trans h.size k.size,fun i hi hne=>(k.block i (Nat.lt_of_lt_of_le hi h.size) hne).trans (h.block i hi hne)⟩
theorem Zfm.set1 {w0 w:World} {B E k g n cap m:Nat} {ys:List Value} {v:Value} (h:Zfm w0 w B E k g n cap m ys) (hm:m<n*k) (hy:ys[m]?=some v):
 Zfm w0 (w.setCell ⟨g,m,none⟩ v) B E k g n cap (m+1) ys:=by
 obtain ⟨cs,ho,ht,hg⟩:=h
 have hl:cs.length=n*k:=ho.1
 obtain ⟨h1,h2⟩:=ho.stored m v
 exact ⟨cs.set m v,h1,ZiG (by omega) hy ht,Zl2 hg h2⟩
theorem Zfm.drewN {w0 w:World} {B E k g n cap m:Nat} {ys:List Value} (h:Zfm w0 w B E k g n cap m ys) (q:Nat):Zfm w0 (w.drewN q) B E k g n cap m ys:=by
 obtain ⟨cs,ho,ht,hg⟩:=h
 exact ⟨cs,ho,ht,⟨hg.os,hg.tape,hg.output,hg.size,hg.block⟩⟩
theorem Zfm.own {α:Type} [Enc α] {w0 w:World} {B E g n cap:Nat} {ys:List α} (h:Zfm w0 w B E (Enc.k α) g n cap (n*Enc.k α) (flat ys)) (hn:ys.length=n):Own w B E (.slice (some ⟨g,0,none⟩) n cap) ys∧w0.grownBy w (some g):=by
 obtain ⟨cs,ho,ht,hg⟩:=h
 have hl:cs.length=n*Enc.k α:=ho.1
 have e1:(flat ys).take (n*Enc.k α)=flat ys:=List.take_of_length_le (by rw [ZeL,hn]; exact Nat.le_refl _)
 rw [e1,List.take_of_length_le (by omega)] at ht
 subst ht
 refine ⟨?_,hg⟩
 unfold Own
 rw [hn]
 exact ho
theorem ZtN (b o j:Nat):(⟨b,o,none⟩:Addr).add j=⟨b,o+j,none⟩:=by unfold Addr.add; split <;> simp_all
theorem ZiC {α:Type} [Enc α] {P:Program} (w:World) {t ty e:Nat} {i:TypeInfo} (ht:P.underlying t=some (.slice e)) (hi:P.info? e=some i) {base:Nat} {v:Value} {ys:List α} (hown:Own w base e v ys) (c:Nat):
 (Builtin.append_ #[t,t] ty #[v,.slice none 0 c]).run P w=.ok v w:=by
 rcases hown.2 with ⟨rfl,h0⟩ | ⟨g,cap,cur,rfl,_,_,hnc,_⟩
 ·simp [Builtin.append_,run_underlying ht,sizeOf,typeInfo,hi,Builtin.lenOf,Builtin.firstCells]
 ·simp [Builtin.append_,run_underlying ht,sizeOf,typeInfo,hi,Builtin.lenOf,Builtin.firstCells,hnc,storeCells]
theorem Zml {α:Type} [Enc α] {P:Program} (w:World) {t ty e bytes:Nat} (T:ElT P t e (Enc.k α) bytes) {base:Nat} {v:Value} {ys:List α} (hown:Own w base e v ys)
 {B:Nat} {A:Option Addr} {c:Nat} {xs:List α} (hr:Rd w B A xs) (hbytes:(ys.length+xs.length)*bytes≤140737488355328) (h63:ys.length+xs.length≤maxLen) (hbase:base≤w.heap.size):
 ∃ v' w',(Builtin.append_ #[t,t] ty #[v,.slice A xs.length c]).run P w=.ok v' w'∧Own w' base e v' (ys++xs)∧w.grownBy w' v.ownBlock∧(v'.ownBlock=v.ownBlock∨v'.ownBlock=some w.heap.size):=by
 obtain ⟨i,z,hi,hz,hs,hb,hzs⟩:=T.info
 cases A with
 | none=>
  have hx:xs=[]:=by
   rcases Classical.em (xs=[]) with h | h
   ·exact h
   ·obtain ⟨_,_,h',_⟩:=hr h
    cases h'
  subst hx
  have hrun:=ZiC (P:=P) w (ty:=ty) T.ht hi hown c
  exact ⟨v,w,by simpa using hrun,by simpa using hown,⟨rfl,rfl,rfl,Nat.le_refl _,fun _ _ _=>rfl⟩,.inl rfl⟩
 | some ad=>
  have hnews:∀ j u,(flat xs)[j]?=some u→w.cell? (ad.add j)=some u:=by
   intro j u hu
   have hne:xs≠[]:=by rintro rfl; simp [flat] at hu
   obtain ⟨b,off,hA',_,hc⟩:=hr hne
   injection hA' with hA'
   subst hA'
   rw [ZtN]
   exact hc j u hu
  obtain ⟨v',w',hrun,h2,h3,_,h5⟩:=run_append_own_at (P:=P) w base t ty e i z (Enc.k α) bytes T.ht hi hz hs hb hzs Enc.pos v ys.length (flat ys) hown ad xs.length c (flat xs) (ZeL xs) hnews (ZmV xs) h63 hbytes hbase
  refine ⟨v',w',hrun,?_,h3,h5⟩
  have e1:(ys++xs).length=ys.length+xs.length:=List.length_append
  unfold Own
  rw [e1,Zon]
  exact h2
theorem Up.grown' {α:Type} [Enc α] {w0 w w':World} {base e:Nat} {v:Value} {ys:List α} (h:Up w0 w) (hg:w.grownBy w' v.ownBlock) (hown:Own w base e v ys) (hb:w0.heap.size≤base):Up w0 w':=
 Below.grown h hg h.size (fun k hk=>Nat.le_trans hb (World.ownsRow.lt hown k hk).1)
theorem Zn1 {α:Type} [Enc α] {P:Program} {w:World} {o:Oper} {a:Act} {K:Act→World→Prop} {Q:Exit→Act→World→Prop} {t e bytes:Nat} (T:ElT P t e (Enc.k α) bytes)
 (s x:Operand) (ho:o.op=.call { callee:=.builtin .append,args:=#[s,x],argTypes:=#[t,t] })
 {base:Nat} {v:Value} {ys:List α} (hs:a.eval s=v) (hown:Own w base e v ys)
 {B:Nat} {A:Option Addr} {c:Nat} {xs:List α} (n:Nat) (hx:a.eval x=.slice A n c) (hn:n=xs.length) (hr:Rd w B A xs)
 (hbytes:(ys.length+xs.length)*bytes≤140737488355328) (h63:ys.length+xs.length≤maxLen) (hbase:base≤w.heap.size)
 (h:∀ v' w',Own w' base e v' (ys++xs)→w.grownBy w' v.ownBlock→(v'.ownBlock=v.ownBlock∨v'.ownBlock=some w.heap.size)→(∀ w0,w0.heap.size≤base→Up w0 w→Up w0 w')→K (a.put o.dst v') w'):
 o.wp P a w K Q:=by
 subst hn
 obtain ⟨v',w',hrun,h2,h3,h4⟩:=Zml (P:=P) w (ty:=o.type) (c:=c) T hown hr hbytes h63 hbase
 unfold Oper.wp execOp
 simp only [ho,resolve,invoke,builtin,Sem.run_bind,Sem.run_pure,Result.andThen_ok,List.map_toArray,List.map_cons,List.map_nil,hs,hx,hrun]
 exact h v' w' h2 h3 h4 fun w0 hb hu=>Up.grown' hu h3 hown hb
theorem ZW {α:Type} [Enc α] {P:Program} {w:World} {ops:Array Oper} {rest:List Oper} {o:Oper} {a:Act} {Q:Exit→Act→World→Prop} {t e bytes:Nat} (T:ElT P t e (Enc.k α) bytes)
 (hgd:o.guard=none) (s x:Operand) (ho:o.op=.call { callee:=.builtin .append,args:=#[s,x],argTypes:=#[t,t] })
 {base:Nat} {v:Value} {ys:List α} (hs:a.eval s=v) (hown:Own w base e v ys)
 {B:Nat} {A:Option Addr} {c:Nat} {xs:List α} (n:Nat) (hx:a.eval x=.slice A n c) (hn:n=xs.length) (hr:Rd w B A xs)
 (hbytes:(ys.length+xs.length)*bytes≤140737488355328) (h63:ys.length+xs.length≤maxLen) (hbase:base≤w.heap.size)
 (h:∀ v' w',Own w' base e v' (ys++xs)→w.grownBy w' v.ownBlock→(v'.ownBlock=v.ownBlock∨v'.ownBlock=some w.heap.size)→(∀ w0,w0.heap.size≤base→Up w0 w→Up w0 w')→wpList P ops Q rest (a.put o.dst v') w'):
 wpList P ops Q (o::rest) a w:=
 wpList_plain hgd fun _ hK=>Zn1 T s x ho hs hown n hx hn hr hbytes h63 hbase fun v' w' h2 h3 h4 h5=>hK _ _ (h v' w' h2 h3 h4 h5)
end Go.Proofs.YtmcdjilbkmhfoaaGreat
namespace Go.Proofs.YtmcdjilbkmhfoaaGreat
set_option maxRecDepth 10000
open Go.RowKit Go.Maps Go.WideMaps
set_option linter.unusedVariables false
set_option linter.unusedSimpArgs false
instance:Enc ByteArray where
 cells x:=[.string x]
 k:=1
 len _:=rfl
 pos:=by decide
 one:=by simp [Value.oneCell']
theorem ZmW (ls:List ByteArray):flat ls=ls.map Value.string:=by
 induction ls with
 | nil=>rfl
 | cons x xs ih=>rw [Zin,ih]; rfl
def inL (S:List ByteArray) (s:ByteArray):Bool:=S.any fun y=>decide (y=s)
theorem Zr7 {S:List ByteArray} {s:ByteArray}:inL S s=true↔s∈S:=by simp [inL]
theorem Zpu (S:List ByteArray) (s s':ByteArray):inL (S++[s]) s'=(inL S s' || decide (s=s')):=by simp [inL]
def dd (out:List ByteArray) (s:ByteArray):List ByteArray:=if inL out s=true then out else out++[s]
def ZdQ (n:Za):List ByteArray:=n.legs.flatMap fun l=>[l.from_,l.to_]
theorem Zc2 {w w':World} {row:Option Nat} (h:w.grownBy w' row) {b o:Nat} (hb:b<w.heap.size) (hne:some b≠row):w'.cell? ⟨b,o,none⟩=w.cell? ⟨b,o,none⟩:=by simp [World.cell?,h.block b hb hne]
theorem Rd.oneAt {α:Type} [Enc α] (w:World) (T:TypeId) (x:α) (H:Nat) (hH:w.heap.size=H):Rd (w.alloc (.cells (Enc.cells x).toArray T)) (H+1) (some ⟨H,0,none⟩) [x]:=by
 subst hH
 exact Rd.one w T x _ (Nat.lt_succ_self _)
theorem ZiL {w:World} {b o:Nat} {u:Value} {ob:Obj} (h:w.cell? ⟨b,o,none⟩=some u):(w.alloc ob).cell? ⟨b,o,none⟩=some u:=
 ((Up.al ob (Up.rfl' w)).cell (p:=⟨b,o,none⟩) (World.block_lt_of_cell? _ _ h)).trans h
def SetM (P:Program) (k e:TypeId) (w:World) (b n:Nat) (S:List ByteArray):Prop:=
 ∃ D:DataW Unit,w.ownsMap P k (plainElem P e) b n D∧IsMap D∧∀ s:ByteArray,D.atKey (.string s.data.toList) (.lit (.bool false))=.lit (.bool (inL S s))
section
variable {P:Program} {k e:TypeId} {w:World} {b n:Nat} {S:List ByteArray}
theorem SetM.made (w:World):SetM P k e (w.alloc (.map #[] 0)) w.heap.size 0 []:=
 ⟨_,World.ownsMap_made w P k _,isMap_empty,fun s=>by simp [DataW.atKey,inL]⟩
theorem SetM.kept {w':World} {row:Option Nat} (h:SetM P k e w b n S) (hg:w.grownBy w' row) (hne:some b≠row):SetM P k e w' b n S:=by
 obtain ⟨D,h1,h2⟩:=h; exact ⟨D,h1.kept hg hne,h2⟩
theorem SetM.alloc (h:SetM P k e w b n S) (o:Obj):SetM P k e (w.alloc o) b n S:=by
 obtain ⟨D,h1,h2⟩:=h; exact ⟨D,h1.alloc o,h2⟩
theorem SetM.setCell (h:SetM P k e w b n S) {a:Addr} (ha:b≠a.block) (u:Value):SetM P k e (w.setCell a u) b n S:=by
 obtain ⟨D,h1,h2⟩:=h; exact ⟨D,h1.setCell ha u,h2⟩
theorem SetM.mono (h:SetM P k e w b n S) {n':Nat} (hn:n≤n'):SetM P k e w b n' S:=by
 obtain ⟨D,h1,h2⟩:=h; exact ⟨D,h1.mono hn,h2⟩
theorem SetM.lt (h:SetM P k e w b n S):b<w.heap.size:=by obtain ⟨D,h1,_⟩:=h; exact h1.lt
theorem Zwr {a b:Bool} (h:(DataW.lit (.bool a):DataW Unit)=.lit (.bool b)):a=b:=by simpa using h
theorem ZtV (he:P.underlying e=some .bool) {v:Value} {z:DataW Unit × List MemPlace} (h:plainElem P e v=some z):∃ c,v=.bool c∧z=(.lit (.bool c),[]):=by
 unfold plainElem at h
 rw [he] at h
 cases v <;> simp at h
 exact ⟨_,rfl,h.symm⟩
theorem Zv (w:World) {ops:Array Oper} {rest:List Oper} {o:Oper} {a:Act} {Q:Exit→Act→World→Prop}
 (hg:o.guard=none) (m x:Operand) (t:TypeId) (hop:o.op=Op.lookup t m x false)
 (k e:TypeId) (hk:P.underlying k=some .string) (ht:P.underlying t=some (.map k e)) (he:P.underlying e=some .bool) (hz:∀ w,(zeroValue e).run P w=.ok (.bool false) w) (b n:Nat) (S:List ByteArray)
 (hm:a.eval m=.map (some b)) (hown:SetM P k e w b n S) (s:ByteArray) (hx:a.eval x=.string s) (hs:s.size≤maxLen) (c:Bool) (hc:inL S s=c)
 (hK:wpList P ops Q rest (a.put o.dst (.bool c)) w):
 wpList P ops Q (o::rest) a w:=by
 refine wpList_plain hg fun K' hK'=>?_
 subst hc
 obtain ⟨D,h1,h2,h3⟩:=hown
 obtain ⟨v,ps,hrun,hv⟩:=h1.lookup (string_keyed hk) ht (hz w) (plainElem_bool he false) (keyOf_string_mk hk hs)
 obtain ⟨c,rfl,hc⟩:=ZtV he hv
 simp only [Prod.mk.injEq] at hc
 have hcc:c=inL S s:=Zwr (hc.1.symm.trans (h3 s))
 subst hcc
 unfold Oper.wp
 simp [execOp,hop,hm,hx,hrun,Result.andThen]
 exact hK' _ _ hK
theorem Zam (w:World) {ops:Array Oper} {rest:List Oper} {o:Oper} {a:Act} {Q:Exit→Act→World→Prop}
 (hg:o.guard=none) (m x v:Operand) (t:TypeId) (hop:o.op=Op.mapUpdate t m x v)
 (k e:TypeId) (hk:P.underlying k=some .string) (ht:P.underlying t=some (.map k e)) (he:P.underlying e=some .bool) (b n:Nat) (S:List ByteArray)
 (hm:a.eval m=.map (some b)) (hown:SetM P k e w b n S) (hn:n<maxLen) (s:ByteArray) (hx:a.eval x=.string s) (hv:a.eval v=.bool true) (hs:s.size≤maxLen)
 (hK:∀ w',SetM P k e w' b (n+1) (S++[s])→w.grownBy w' (some b)→wpList P ops Q rest (a.put o.dst undef) w'):
 wpList P ops Q (o::rest) a w:=by
 refine wpList_plain hg fun K' hK'=>?_
 obtain ⟨D,h1,h2,h3⟩:=hown
 obtain ⟨w',hrun,r1,r2⟩:=h1.update (string_keyed hk) ht hn (keyOf_string_mk hk hs) (plainElem_bool (H:=Unit) he true)
 unfold Oper.wp
 simp [execOp,hop,hm,hx,hv,hrun,Result.andThen]
 refine hK' _ _ (hK w' ⟨_,r1,h2.put _ _,fun s'=>?_⟩ r2)
 by_cases e:s'=s
 ·subst e
  rw [atKey_put_same h2 (by simp [WideAt.IsKeyLit])]
  rw [Zpu]; simp
 ·rw [atKey_put_other (by intro h; simp at h; exact e (by obtain ⟨⟨x⟩⟩:=s'; obtain ⟨⟨y⟩⟩:=s; simpa using h)),h3 s',Zpu,decide_eq_false (fun h=>e h.symm),Bool.or_false]
end
end Go.Proofs.YtmcdjilbkmhfoaaGreat
namespace Go.Proofs
open Go.Shelf
def Tryz.lays106_ren:Go.Shelf.Ren:=⟨fun | 106=>254 | 213=>272 | 265=>285 | n=>n,fun | 9=>9 | 3=>3 | n=>n,fun | n=>n⟩
theorem Tryz.lays106:Go.Proofs.Lays.n106 Tryz.prog Tryz.lays106_ren:={
 mixed:=by kernel_rfl
 f106:=Tryz.func254.trans (congrArg some (by kernel_rfl))
 f213:=Tryz.func272.trans (congrArg some (by kernel_rfl))
 f265:=Tryz.func285.trans (congrArg some (by kernel_rfl))
 t3:=Tryz.underlying3
 a3:=Tryz.isAgg3
 z3:=Tryz.sizeOf3
 v3:=Tryz.zeroValue3
 t9:=Tryz.underlying9
 a9:=Tryz.isAgg9
 z9:=Tryz.sizeOf9
 v9:=Tryz.zeroValue9 }
open Go.RowKit in
theorem Tryz.strings_Compare (a b:ByteArray) (w:World):
 Calls Tryz.prog 254 #[.string a,.string b] w fun e w'=>e=.returned (.int .i64 (Lib.compareBytes a.data.toList b.data.toList))∧w'=w:=Any.strings_Compare Tryz.lays106 a b w
def Tryz.lays192_ren:Go.Shelf.Ren:=⟨fun | 192=>206 | 190=>246 | 125=>271 | 258=>270 | 128=>283 | 129=>284 | 302=>274 | 303=>275 | 304=>276 | 305=>277 | 306=>278 | 307=>279 | 308=>280 | 309=>281 | 310=>282 | 333=>287 | 329=>288 | 330=>289 | 334=>290 | 335=>291 | 336=>292 | 344=>293 | n=>n,fun | 31=>81 | 0=>0 | 9=>9 | 3=>3 | 46=>230 | 51=>271 | 53=>273 | 4=>4 | 183=>263 | 182=>262 | 131=>268 | 5=>5 | 218=>274 | 222=>278 | 228=>280 | 229=>281 | n=>n,fun | n=>n⟩
theorem Tryz.lays192:Go.Proofs.Lays.n192 Tryz.prog Tryz.lays192_ren:={
 mixed:=by kernel_rfl
 f125:=Tryz.func271.trans (congrArg some (by kernel_rfl))
 f128:=Tryz.func283.trans (congrArg some (by kernel_rfl))
 f129:=Tryz.func284.trans (congrArg some (by kernel_rfl))
 f190:=Tryz.func246.trans (congrArg some (by kernel_rfl))
 f192:=Tryz.func206.trans (congrArg some (by kernel_rfl))
 f258:=Tryz.func270.trans (congrArg some (by kernel_rfl))
 f302:=Tryz.func274.trans (congrArg some (by kernel_rfl))
 f303:=Tryz.func275.trans (congrArg some (by kernel_rfl))
 f304:=Tryz.func276.trans (congrArg some (by kernel_rfl))
 f305:=Tryz.func277.trans (congrArg some (by kernel_rfl))
 f306:=Tryz.func278.trans (congrArg some (by kernel_rfl))
 f307:=Tryz.func279.trans (congrArg some (by kernel_rfl))
 f308:=Tryz.func280.trans (congrArg some (by kernel_rfl))
 f309:=Tryz.func281.trans (congrArg some (by kernel_rfl))
 f310:=Tryz.func282.trans (congrArg some (by kernel_rfl))
 f329:=Tryz.func288.trans (congrArg some (by kernel_rfl))
 f330:=Tryz.func289.trans (congrArg some (by kernel_rfl))
 f333:=Tryz.func287.trans (congrArg some (by kernel_rfl))
 f334:=Tryz.func290.trans (congrArg some (by kernel_rfl))
 f335:=Tryz.func291.trans (congrArg some (by kernel_rfl))
 f336:=Tryz.func292.trans (congrArg some (by kernel_rfl))
 f344:=Tryz.func293.trans (congrArg some (by kernel_rfl))
 t0:=Tryz.underlying0
 a0:=Tryz.isAgg0
 z0:=Tryz.sizeOf0
 v0:=Tryz.zeroValue0
 t3:=Tryz.underlying3
 a3:=Tryz.isAgg3
 z3:=Tryz.sizeOf3
 v3:=Tryz.zeroValue3
 t4:=Tryz.underlying4
 a4:=Tryz.isAgg4
 z4:=Tryz.sizeOf4
 v4:=Tryz.zeroValue4
 t5:=Tryz.underlying5
 a5:=Tryz.isAgg5
 z5:=Tryz.sizeOf5
 v5:=Tryz.zeroValue5
 t9:=Tryz.underlying9
 a9:=Tryz.isAgg9
 z9:=Tryz.sizeOf9
 v9:=Tryz.zeroValue9
 t31:=Tryz.underlying81
 a31:=Tryz.isAgg81
 z31:=Tryz.sizeOf81
 v31:=Tryz.zeroValue81
 t46:=Tryz.underlying230
 a46:=Tryz.isAgg230
 z46:=Tryz.sizeOf230
 v46:=Tryz.zeroValue230
 t51:=Tryz.underlying271
 a51:=Tryz.isAgg271
 z51:=Tryz.sizeOf271
 v51:=Tryz.zeroValue271
 t53:=Tryz.underlying273
 a53:=Tryz.isAgg273
 z53:=Tryz.sizeOf273
 v53:=Tryz.zeroValue273
 t131:=Tryz.underlying268
 a131:=Tryz.isAgg268
 z131:=Tryz.sizeOf268
 v131:=Tryz.zeroValue268
 t182:=Tryz.underlying262
 a182:=Tryz.isAgg262
 z182:=Tryz.sizeOf262
 v182:=Tryz.zeroValue262
 t183:=Tryz.underlying263
 a183:=Tryz.isAgg263
 z183:=Tryz.sizeOf263
 v183:=Tryz.zeroValue263
 t218:=Tryz.underlying274
 a218:=Tryz.isAgg274
 z218:=Tryz.sizeOf274
 v218:=Tryz.zeroValue274
 t222:=Tryz.underlying278
 a222:=Tryz.isAgg278
 z222:=Tryz.sizeOf278
 v222:=Tryz.zeroValue278
 t228:=Tryz.underlying280
 a228:=Tryz.isAgg280
 z228:=Tryz.sizeOf280
 v228:=Tryz.zeroValue280
 t229:=Tryz.underlying281
 a229:=Tryz.isAgg281
 z229:=Tryz.sizeOf281
 v229:=Tryz.zeroValue281 }
open Go.Sort Go.RowKit in
theorem Tryz.sort_Strings (blk off cap:Nat) (ss:List (List UInt8)) (w:World) (hH:Holds encStr w blk off ss.toArray) (hblk:blk<w.heap.size) (hsz:ss.length<4611686018427387904):
 Calls Tryz.prog 206 #[.slice (some ⟨blk,off,none⟩) ss.length cap] w fun e w'=>
  e=.returned (.tuple #[])∧∃ n os,w'=grow (putRow encStr (Sort.ahead w n) blk off (ss.mergeSort fun x y=>decide (x≤y)).toArray) os:=Any.sort_Strings Tryz.lays192 blk off cap ss w hH hblk hsz
def Tryz.laysGt8_ren:Go.Shelf.Ren:=⟨fun | 8=>200 | 13=>239 | 14=>240 | 16=>242 | 15=>241 | 29=>268 | 30=>269 | 42=>273 | 49=>286 | n=>n,fun | 20=>20 | 26=>206 | 36=>239 | 0=>0 | 38=>241 | 42=>245 | 3=>3 | 4=>4 | 47=>230 | 17=>17 | 33=>236 | 34=>237 | 89=>296 | 12=>12 | 56=>271 | 82=>289 | 5=>5 | 83=>290 | 84=>291 | 85=>292 | 86=>293 | 87=>294 | n=>n,fun | n=>n⟩
theorem Tryz.laysGt8:Go.Proofs.LaysGt.n8 Tryz.prog Tryz.laysGt8_ren:={
 mixed:=by kernel_rfl
 f8:=Tryz.func200.trans (congrArg some (by kernel_rfl))
 f13:=Tryz.func239.trans (congrArg some (by kernel_rfl))
 f14:=Tryz.func240.trans (congrArg some (by kernel_rfl))
 f15:=Tryz.func241.trans (congrArg some (by kernel_rfl))
 f16:=Tryz.func242.trans (congrArg some (by kernel_rfl))
 f29:=Tryz.func268.trans (congrArg some (by kernel_rfl))
 f30:=Tryz.func269.trans (congrArg some (by kernel_rfl))
 f42:=Tryz.func273.trans (congrArg some (by kernel_rfl))
 f49:=Tryz.func286.trans (congrArg some (by kernel_rfl))
 t0:=Tryz.underlying0
 a0:=Tryz.isAgg0
 z0:=Tryz.sizeOf0
 v0:=Tryz.zeroValue0
 i0:=by kernel_rfl
 t3:=Tryz.underlying3
 a3:=Tryz.isAgg3
 z3:=Tryz.sizeOf3
 v3:=Tryz.zeroValue3
 i3:=by kernel_rfl
 t4:=Tryz.underlying4
 a4:=Tryz.isAgg4
 z4:=Tryz.sizeOf4
 v4:=Tryz.zeroValue4
 i4:=by kernel_rfl
 t5:=Tryz.underlying5
 a5:=Tryz.isAgg5
 z5:=Tryz.sizeOf5
 v5:=Tryz.zeroValue5
 i5:=by kernel_rfl
 t12:=Tryz.underlying12
 a12:=Tryz.isAgg12
 z12:=Tryz.sizeOf12
 v12:=Tryz.zeroValue12
 i12:=by kernel_rfl
 t17:=Tryz.underlying17
 a17:=Tryz.isAgg17
 z17:=Tryz.sizeOf17
 v17:=Tryz.zeroValue17
 i17:=by kernel_rfl
 t20:=Tryz.underlying20
 a20:=Tryz.isAgg20
 z20:=Tryz.sizeOf20
 v20:=Tryz.zeroValue20
 i20:=by kernel_rfl
 t26:=Tryz.underlying206
 a26:=Tryz.isAgg206
 z26:=Tryz.sizeOf206
 v26:=Tryz.zeroValue206
 i26:=by kernel_rfl
 t33:=Tryz.underlying236
 a33:=Tryz.isAgg236
 z33:=Tryz.sizeOf236
 v33:=Tryz.zeroValue236
 i33:=by kernel_rfl
 t34:=Tryz.underlying237
 a34:=Tryz.isAgg237
 z34:=Tryz.sizeOf237
 v34:=Tryz.zeroValue237
 i34:=by kernel_rfl
 t36:=Tryz.underlying239
 a36:=Tryz.isAgg239
 z36:=Tryz.sizeOf239
 v36:=Tryz.zeroValue239
 i36:=by kernel_rfl
 t38:=Tryz.underlying241
 a38:=Tryz.isAgg241
 z38:=Tryz.sizeOf241
 v38:=Tryz.zeroValue241
 i38:=by kernel_rfl
 t42:=Tryz.underlying245
 a42:=Tryz.isAgg245
 z42:=Tryz.sizeOf245
 v42:=Tryz.zeroValue245
 i42:=by kernel_rfl
 t47:=Tryz.underlying230
 a47:=Tryz.isAgg230
 z47:=Tryz.sizeOf230
 v47:=Tryz.zeroValue230
 i47:=by kernel_rfl
 t56:=Tryz.underlying271
 a56:=Tryz.isAgg271
 z56:=Tryz.sizeOf271
 v56:=Tryz.zeroValue271
 i56:=by kernel_rfl
 t82:=Tryz.underlying289
 a82:=Tryz.isAgg289
 z82:=Tryz.sizeOf289
 v82:=Tryz.zeroValue289
 i82:=by kernel_rfl
 t83:=Tryz.underlying290
 a83:=Tryz.isAgg290
 z83:=Tryz.sizeOf290
 v83:=Tryz.zeroValue290
 i83:=by kernel_rfl
 t84:=Tryz.underlying291
 a84:=Tryz.isAgg291
 z84:=Tryz.sizeOf291
 v84:=Tryz.zeroValue291
 i84:=by kernel_rfl
 t85:=Tryz.underlying292
 a85:=Tryz.isAgg292
 z85:=Tryz.sizeOf292
 v85:=Tryz.zeroValue292
 i85:=by kernel_rfl
 t86:=Tryz.underlying293
 a86:=Tryz.isAgg293
 z86:=Tryz.sizeOf293
 v86:=Tryz.zeroValue293
 i86:=by kernel_rfl
 t87:=Tryz.underlying294
 a87:=Tryz.isAgg294
 z87:=Tryz.sizeOf294
 v87:=Tryz.zeroValue294
 i87:=by kernel_rfl
 t89:=Tryz.underlying296
 a89:=Tryz.isAgg296
 z89:=Tryz.sizeOf296
 v89:=Tryz.zeroValue296
 i89:=by kernel_rfl }
end Go.Proofs
namespace Go.Proofs.YtmcdjilbkmhfoaaGreat
set_option maxRecDepth 10000
open Go.RowKit
set_option linter.unusedVariables false
set_option linter.unusedSimpArgs false
def srtS (xs:List ByteArray):List ByteArray:=((xs.map fun b:ByteArray=>b.data.toList).mergeSort fun x y=>decide (x≤y)).map fun l=>⟨l.toArray⟩
theorem Zp0 (xs:List ByteArray):(srtS xs).length=xs.length:=by simp [srtS]
end Go.Proofs.YtmcdjilbkmhfoaaGreat
namespace Go.Proofs.YtmcdjilbkmhfoaaGreat
set_option maxRecDepth 10000
open Go.RowKit Go.Maps Go.WideMaps Go.Sort
set_option linter.unusedVariables false
set_option linter.unusedSimpArgs false
instance:Enc YLeg where
 cells x:=[.string x.from_,.string x.to_,I x.start,I x.takes,I x.days,I x.room]
 k:=6
 len _:=rfl
 pos:=by decide
 one:=by simp [Value.oneCell',I]
theorem Rd.leg {w:World} {B:Nat} {A:Option Addr} {xs:List YLeg} {i:Nat} {x:YLeg} (h:Rd w B A xs) (hx:xs[i]?=some x):
 ∃ b off,A=some ⟨b,off,none⟩∧b<B∧w.cell? ⟨b,off+i*6,none⟩=some (.string x.from_)∧w.cell? ⟨b,off+i*6+1,none⟩=some (.string x.to_)∧w.cell? ⟨b,off+i*6+2,none⟩=some (I x.start)∧w.cell? ⟨b,off+i*6+3,none⟩=some (I x.takes)∧w.cell? ⟨b,off+i*6+4,none⟩=some (I x.days)∧w.cell? ⟨b,off+i*6+5,none⟩=some (I x.room):=by
 obtain ⟨b,off,e,hb,hc⟩:=h.at_ hx
 exact ⟨b,off,e,hb,hc 0 _ rfl,hc 1 _ rfl,hc 2 _ rfl,hc 3 _ rfl,hc 4 _ rfl,hc 5 _ rfl⟩
theorem Zul:(Tryz.prog.info? 9).map (fun i=>(i.zero,i.size,i.bytes))=some (some (Value.string ⟨#[]⟩),1,16):=by kernel_rfl
theorem Zg7:ElT Tryz.prog 81 9 (Enc.k ByteArray) 16:=ElT.mk' Tryz.underlying81 Zul rfl
theorem ZaH (w:World):(zeroValue 4).run Tryz.prog w=.ok (.bool false) w:=by kernel_rfl
def nmI (legs:List YLeg) (i:Nat):List ByteArray:=(legs.take i).foldl (fun out l=>dd (dd out l.from_) l.to_) []
theorem Zuy {legs:List YLeg} {i:Nat} {x:YLeg} (hx:legs[i]?=some x):nmI legs (i+1)=dd (dd (nmI legs i) x.from_) x.to_:=by
 unfold nmI
 rw [Zqk hx]
theorem Zvh (out:List ByteArray) (s:ByteArray):(dd out s).length≤out.length+1:=by unfold dd; split <;> simp
theorem Zsq (legs:List YLeg) (i:Nat):(nmI legs i).length≤2*i:=by
 have h:∀ (b:List YLeg) (out:List ByteArray),(b.foldl (fun out l=>dd (dd out l.from_) l.to_) out).length≤out.length+2*b.length:=by
  intro b
  induction b with
  | nil=>intro out; simp
  | cons x b ih=>
   intro out
   have h1:=ih (dd (dd out x.from_) x.to_)
   have h2:=Zvh (dd out x.from_) x.to_
   have h3:=Zvh out x.from_
   simp only [List.foldl_cons,List.length_cons]
   omega
 have h1:=h (legs.take i) []
 have h2:(legs.take i).length≤i:=List.length_take_le _ _
 simp only [List.length_nil] at h1
 unfold nmI
 omega
theorem ZoU (g cp n B:Nat) (zs:List ByteArray) (w:World) (ho:Own w B 9 (.slice (some ⟨g,0,none⟩) n cp) zs) (hl:n=zs.length) (hn:n≤4194304):
 Calls Tryz.prog 206 #[.slice (some ⟨g,0,none⟩) n cp] w fun e w'=>e=.returned (.tuple #[])∧Own w' B 9 (.slice (some ⟨g,0,none⟩) n cp) (srtS zs)∧w.grownBy w' (some g):=by
 subst hl
 rcases ho.2 with ⟨h0,_⟩ | ⟨g',cap',cur,hv,hB,hg,hnc,hcm,hcs,ht⟩
 ·cases h0
 ·obtain ⟨rfl,rfl⟩:g=g'∧cp=cap':=by simpa using hv
  have hss:(zs.map fun b:ByteArray=>b.data.toList).length=zs.length:=by simp
  have ht':cur.toList.take (zs.map fun b:ByteArray=>b.data.toList).length=(zs.map fun b:ByteArray=>b.data.toList).map encStr:=by
   have:=ht
   rw [show Enc.k ByteArray=1 from rfl,Nat.mul_one,ZmW] at this
   rw [hss,this,List.map_map]
   apply List.map_congr_left
   intro b _
   rfl
  have hH:=holds_of_block hg ht'
  have key:=Tryz.sort_Strings g 0 cp _ w hH (Array.getElem?_eq_some_iff.1 hg).1 (by rw [hss]; omega)
  rw [hss] at key
  refine key.mono ?_
  rintro e w' ⟨rfl,m,os,rfl⟩
  have hs:=ownsRow_sorted (n:=m) (os:=os) (ss:=zs.map fun b:ByteArray=>b.data.toList) (ts:=(zs.map fun b:ByteArray=>b.data.toList).mergeSort fun x y=>decide (x≤y)) (by simp) hB hg (by simpa using hnc) hcm hcs
  refine ⟨rfl,?_,grownBy_sorted _⟩
  unfold Own
  rw [Zp0,ZmW]
  rw [hss] at hs
  have e2:(srtS zs).map Value.string=((zs.map fun b:ByteArray=>b.data.toList).mergeSort fun x y=>decide (x≤y)).map encStr:=by
   unfold srtS; rw [List.map_map]; rfl
  rw [e2]
  exact hs
set_option maxRecDepth 100000 in
theorem ZoI (A:Option Addr) (legs:List YLeg) (n c:Nat) (v2 v3:Value) (w:World) (hr:Rd w w.heap.size A legs) (hl:n=legs.length) (hc:legs.length≤c) (hn:n≤1048576) (hs:∀ l∈legs,l.from_.size≤maxLen∧l.to_.size≤maxLen):
 Calls Tryz.prog 141 #[.agg #[.slice A n c,v2,v3]] w fun e w'=>∃ v,e=.returned v∧Own w' w.heap.size 9 v (srtS (nmI legs legs.length))∧Up w w':=by
 subst hl
 have hmm:=@run_makeMap Tryz.prog
 go_enter Tryz.func141,Tryz.ntmps141
 go_wp2
 go_loopw [4,14] (fun v i wr=>∃ j g cp:Nat,j≤legs.length∧i=.int .i64 j∧v=.slice (some ⟨g,0,none⟩) (nmI legs j).length cp∧Own wr (w.heap.size+2) 9 (.slice (some ⟨g,0,none⟩) (nmI legs j).length cp) (nmI legs j)∧SetM Tryz.prog 9 4 wr (w.heap.size+1) (2*j) (nmI legs j)∧Up w wr) (fun _ i _=>legs.length-(intOf i).toNat)
 case atStart=>exact ⟨0,w.heap.size+1+1,0,by omega,rfl,rfl,by have h_:=Own.empty (α:=ByteArray) ((w.alloc (.cells #[.slice A legs.length c,v2,v3] 35)).alloc (.map #[] 0)) (w.heap.size+2) 9 0 #[] (by simp) (by unfold maxLen; omega) rfl; simpa [nmI] using h_,by have h_:=(SetM.made (P:=Tryz.prog) (k:=9) (e:=4) (w.alloc (.cells #[.slice A legs.length c,v2,v3] 35))).alloc (.cells #[] 9); simpa [nmI] using h_,by (repeat (first | exact Up.rfl' _ | (refine Up.al _ ?_) | (refine Up.dr _ ?_) | (refine Up.dr1 ?_) | (refine Up.sc ?_ (by first | exact Nat.le_refl _ | (simp; done) | omega) _) | (refine Up.step (by assumption) ?_)))⟩
 case round=>
  obtain ⟨i,g3,c3',hi,rfl,rfl,ho,hset,hb⟩:=hrel
  by_cases hlt:i<legs.length
  ·obtain ⟨x,hx⟩:=ZrY hlt
   obtain ⟨b,off,rfl,hbb,c0,c1,c2,c3,c4,c5⟩:=(hr.below hb).leg hx
   have hlen:=Zsq legs i
   obtain ⟨hs1,hs2⟩:=hs x (List.mem_of_getElem? hx)
   have hgl:=World.ownsRow.lt ho g3 rfl
   have HO:=Lib.hid ho
   have HS:=Lib.hid hset
   clear ho hset
   go_wp2_with fail
   generalize hwb:(wr.alloc _).alloc _=wb
   have d0:wb.cell? ⟨wr.heap.size+1,0,none⟩=some (.string x.from_):=by rw [← hwb]; simp [go_sem]
   have d1:wb.cell? ⟨wr.heap.size+1,1,none⟩=some (.string x.to_):=by rw [← hwb]; simp [go_sem]
   have hub:Up wr wb:=by rw [← hwb]; (repeat (first | exact Up.rfl' _ | (refine Up.al _ ?_) | (refine Up.dr _ ?_) | (refine Up.dr1 ?_) | (refine Up.sc ?_ (by first | exact Nat.le_refl _ | (simp; done) | omega) _) | (refine Up.step (by assumption) ?_)))
   have hsz:wr.heap.size+2≤wb.heap.size:=by rw [← hwb]; simp
   have HS0:Hid (SetM Tryz.prog 9 4 wb (w.heap.size+1) (2*i) (nmI legs i)):=Lib.hid (by rw [← hwb]; exact (HS.out.alloc _).alloc _)
   have HO0:=Lib.hid (HO.out.up hub)
   have hb0:Up w wb:=Up.step hub hb
   clear hwb c0 c1 c2 c3 c4 c5 HS HO
   have hw0:=hb.size
   have hx1:=Zuy hx
   have hc0:=hb0
   cases h1:inL (nmI legs i) x.from_ with
   | false=>
    cases h2:inL (nmI legs i++[x.from_]) x.to_ with
    | false=>
     refine wp_loop_rounds 3 ?_
     rw [rounds_succ]
     go_wp2_with (first | (at_builtin; (have ho_:=HP2.out); go_loud (refine ZW Zg7 rfl (.tmp 34) (.tmp 36) rfl (base:=w.heap.size+2) (ys:=(nmI legs i++[x.from_])) (xs:=[x.to_]) (by rfl) (ho_.up (by (repeat (first | exact Up.rfl' _ | (refine Up.al _ ?_) | (refine Up.dr _ ?_) | (refine Up.dr1 ?_) | (refine Up.sc ?_ (by first | exact Nat.le_refl _ | (simp; done) | omega) _) | (refine Up.step (by assumption) ?_))))) 1 (by rfl) rfl (Rd.oneAt _ _ (x.to_) _ (by simp)) (by simp; omega) (by unfold maxLen; simp; omega) (by simp; omega) ?_); intro v2 w2 ho2 hg_ _ hu_; go_loud (have HS2:=Lib.hid ((HT2.out.alloc _).kept hg_ (by intro hh; have h_:=World.ownsRow.lt ho_ _ hh.symm; omega)); have hc2:Up w w2:=Below.grown (Up.al _ hd2) hg_ (by simp; omega) (fun k e=>by have h_:=World.ownsRow.lt ho_ _ e; omega); have hz2b:w2a.heap.size+1≤w2.heap.size:=(by have h_:=hg_.size; simpa using h_); have HO2:=Lib.hid ho2); clear ho2 ho_ hg_ hu_ HT2 HP2) | (at_mapUpdate; (have h_:=HS1.out); go_loud (refine Zam _ rfl _ _ _ 207 rfl 9 4 Tryz.underlying9 Tryz.underlying207 Tryz.underlying4 (w.heap.size+1) (2*i+1) (nmI legs i++[x.from_]) rfl HS1.out (by unfold maxLen; omega) _ rfl rfl hs2 ?_); intro w2a hs_ hg_; go_loud (have HT2:=Lib.hid hs_; clear hs_; have HP2:=Lib.hid (HO1.out.grown hg_ (.inr (by intro hh; have h_:=World.ownsRow.lt HO1.out _ hh; omega))); have hd2:Up w w2a:=Below.grown hc1 hg_ hc1.size (fun k e=>by cases e; omega); have hz2:=hg_.size; have hp2:=Nat.le_trans hc1.size hg_.size); clear hg_) | (at_lookup; have h_:=HS1.out; (refine Zv _ rfl _ _ 207 rfl 9 4 Tryz.underlying9 Tryz.underlying207 Tryz.underlying4 ZaH (w.heap.size+1) (2*i+1) (nmI legs i++[x.from_]) rfl HS1.out _ rfl hs2 _ h2 ?_)) | (at_builtin; (have ho_:=HP1.out); go_loud (refine ZW Zg7 rfl (.tmp 34) (.tmp 36) rfl (base:=w.heap.size+2) (ys:=(nmI legs i)) (xs:=[x.from_]) (by rfl) (ho_.up (by (repeat (first | exact Up.rfl' _ | (refine Up.al _ ?_) | (refine Up.dr _ ?_) | (refine Up.dr1 ?_) | (refine Up.sc ?_ (by first | exact Nat.le_refl _ | (simp; done) | omega) _) | (refine Up.step (by assumption) ?_))))) 1 (by rfl) rfl (Rd.oneAt _ _ (x.from_) _ (by simp)) (by simp; omega) (by unfold maxLen; simp; omega) (by simp; omega) ?_); intro v1 w1 ho1 hg_ _ hu_; go_loud (have HS1:=Lib.hid ((HT1.out.alloc _).kept hg_ (by intro hh; have h_:=World.ownsRow.lt ho_ _ hh.symm; omega)); have hc1:Up w w1:=Below.grown (Up.al _ hd1) hg_ (by simp; omega) (fun k e=>by have h_:=World.ownsRow.lt ho_ _ e; omega); have d2:=(Zc2 hg_ (by simp; omega) (by intro hh; have h3_:wr.heap.size+1=g3:=Option.some.inj hh; omega)).trans (ZiL dz1); have hz1b:w1a.heap.size+1≤w1.heap.size:=(by have h_:=hg_.size; simpa using h_); have HO1:=Lib.hid ho1); clear ho1 ho_ hg_ hu_ HT1 HP1) | (at_mapUpdate; (have h_:=HS0.out); go_loud (refine Zam _ rfl _ _ _ 207 rfl 9 4 Tryz.underlying9 Tryz.underlying207 Tryz.underlying4 (w.heap.size+1) (2*i) (nmI legs i) rfl HS0.out (by unfold maxLen; omega) _ rfl rfl hs1 ?_); intro w1a hs_ hg_; go_loud (have HT1:=Lib.hid hs_; clear hs_; have HP1:=Lib.hid (HO0.out.grown hg_ (.inr (by intro hh; have h_:=World.ownsRow.lt HO0.out _ hh; omega))); have hd1:Up w w1a:=Below.grown hc0 hg_ hc0.size (fun k e=>by cases e; omega); have hz1:=hg_.size; have dz1:=(Zc2 hg_ (by omega) (by intro hh; injection hh with hh; omega)).trans d1; have hp1:=Nat.le_trans hc0.size hg_.size); clear hg_) | (at_lookup; have h_:=HS0.out; (refine Zv _ rfl _ _ 207 rfl 9 4 Tryz.underlying9 Tryz.underlying207 Tryz.underlying4 ZaH (w.heap.size+1) (2*i) (nmI legs i) rfl HS0.out _ rfl hs1 _ h1 ?_)))
     rw [rounds_succ]
     go_wp2_with (first | (at_builtin; (have ho_:=HP2.out); go_loud (refine ZW Zg7 rfl (.tmp 34) (.tmp 36) rfl (base:=w.heap.size+2) (ys:=(nmI legs i++[x.from_])) (xs:=[x.to_]) (by rfl) (ho_.up (by (repeat (first | exact Up.rfl' _ | (refine Up.al _ ?_) | (refine Up.dr _ ?_) | (refine Up.dr1 ?_) | (refine Up.sc ?_ (by first | exact Nat.le_refl _ | (simp; done) | omega) _) | (refine Up.step (by assumption) ?_))))) 1 (by rfl) rfl (Rd.oneAt _ _ (x.to_) _ (by simp)) (by simp; omega) (by unfold maxLen; simp; omega) (by simp; omega) ?_); intro v2 w2 ho2 hg_ _ hu_; go_loud (have HS2:=Lib.hid ((HT2.out.alloc _).kept hg_ (by intro hh; have h_:=World.ownsRow.lt ho_ _ hh.symm; omega)); have hc2:Up w w2:=Below.grown (Up.al _ hd2) hg_ (by simp; omega) (fun k e=>by have h_:=World.ownsRow.lt ho_ _ e; omega); have hz2b:w2a.heap.size+1≤w2.heap.size:=(by have h_:=hg_.size; simpa using h_); have HO2:=Lib.hid ho2); clear ho2 ho_ hg_ hu_ HT2 HP2) | (at_mapUpdate; (have h_:=HS1.out); go_loud (refine Zam _ rfl _ _ _ 207 rfl 9 4 Tryz.underlying9 Tryz.underlying207 Tryz.underlying4 (w.heap.size+1) (2*i+1) (nmI legs i++[x.from_]) rfl HS1.out (by unfold maxLen; omega) _ rfl rfl hs2 ?_); intro w2a hs_ hg_; go_loud (have HT2:=Lib.hid hs_; clear hs_; have HP2:=Lib.hid (HO1.out.grown hg_ (.inr (by intro hh; have h_:=World.ownsRow.lt HO1.out _ hh; omega))); have hd2:Up w w2a:=Below.grown hc1 hg_ hc1.size (fun k e=>by cases e; omega); have hz2:=hg_.size; have hp2:=Nat.le_trans hc1.size hg_.size); clear hg_) | (at_lookup; have h_:=HS1.out; (refine Zv _ rfl _ _ 207 rfl 9 4 Tryz.underlying9 Tryz.underlying207 Tryz.underlying4 ZaH (w.heap.size+1) (2*i+1) (nmI legs i++[x.from_]) rfl HS1.out _ rfl hs2 _ h2 ?_)) | (at_builtin; (have ho_:=HP1.out); go_loud (refine ZW Zg7 rfl (.tmp 34) (.tmp 36) rfl (base:=w.heap.size+2) (ys:=(nmI legs i)) (xs:=[x.from_]) (by rfl) (ho_.up (by (repeat (first | exact Up.rfl' _ | (refine Up.al _ ?_) | (refine Up.dr _ ?_) | (refine Up.dr1 ?_) | (refine Up.sc ?_ (by first | exact Nat.le_refl _ | (simp; done) | omega) _) | (refine Up.step (by assumption) ?_))))) 1 (by rfl) rfl (Rd.oneAt _ _ (x.from_) _ (by simp)) (by simp; omega) (by unfold maxLen; simp; omega) (by simp; omega) ?_); intro v1 w1 ho1 hg_ _ hu_; go_loud (have HS1:=Lib.hid ((HT1.out.alloc _).kept hg_ (by intro hh; have h_:=World.ownsRow.lt ho_ _ hh.symm; omega)); have hc1:Up w w1:=Below.grown (Up.al _ hd1) hg_ (by simp; omega) (fun k e=>by have h_:=World.ownsRow.lt ho_ _ e; omega); have d2:=(Zc2 hg_ (by simp; omega) (by intro hh; have h3_:wr.heap.size+1=g3:=Option.some.inj hh; omega)).trans (ZiL dz1); have hz1b:w1a.heap.size+1≤w1.heap.size:=(by have h_:=hg_.size; simpa using h_); have HO1:=Lib.hid ho1); clear ho1 ho_ hg_ hu_ HT1 HP1) | (at_mapUpdate; (have h_:=HS0.out); go_loud (refine Zam _ rfl _ _ _ 207 rfl 9 4 Tryz.underlying9 Tryz.underlying207 Tryz.underlying4 (w.heap.size+1) (2*i) (nmI legs i) rfl HS0.out (by unfold maxLen; omega) _ rfl rfl hs1 ?_); intro w1a hs_ hg_; go_loud (have HT1:=Lib.hid hs_; clear hs_; have HP1:=Lib.hid (HO0.out.grown hg_ (.inr (by intro hh; have h_:=World.ownsRow.lt HO0.out _ hh; omega))); have hd1:Up w w1a:=Below.grown hc0 hg_ hc0.size (fun k e=>by cases e; omega); have hz1:=hg_.size; have dz1:=(Zc2 hg_ (by omega) (by intro hh; injection hh with hh; omega)).trans d1; have hp1:=Nat.le_trans hc0.size hg_.size); clear hg_) | (at_lookup; have h_:=HS0.out; (refine Zv _ rfl _ _ 207 rfl 9 4 Tryz.underlying9 Tryz.underlying207 Tryz.underlying4 ZaH (w.heap.size+1) (2*i) (nmI legs i) rfl HS0.out _ rfl hs1 _ h1 ?_)))
     rw [rounds_succ]
     go_wp2_with (first | (at_builtin; (have ho_:=HP2.out); go_loud (refine ZW Zg7 rfl (.tmp 34) (.tmp 36) rfl (base:=w.heap.size+2) (ys:=(nmI legs i++[x.from_])) (xs:=[x.to_]) (by rfl) (ho_.up (by (repeat (first | exact Up.rfl' _ | (refine Up.al _ ?_) | (refine Up.dr _ ?_) | (refine Up.dr1 ?_) | (refine Up.sc ?_ (by first | exact Nat.le_refl _ | (simp; done) | omega) _) | (refine Up.step (by assumption) ?_))))) 1 (by rfl) rfl (Rd.oneAt _ _ (x.to_) _ (by simp)) (by simp; omega) (by unfold maxLen; simp; omega) (by simp; omega) ?_); intro v2 w2 ho2 hg_ _ hu_; go_loud (have HS2:=Lib.hid ((HT2.out.alloc _).kept hg_ (by intro hh; have h_:=World.ownsRow.lt ho_ _ hh.symm; omega)); have hc2:Up w w2:=Below.grown (Up.al _ hd2) hg_ (by simp; omega) (fun k e=>by have h_:=World.ownsRow.lt ho_ _ e; omega); have hz2b:w2a.heap.size+1≤w2.heap.size:=(by have h_:=hg_.size; simpa using h_); have HO2:=Lib.hid ho2); clear ho2 ho_ hg_ hu_ HT2 HP2) | (at_mapUpdate; (have h_:=HS1.out); go_loud (refine Zam _ rfl _ _ _ 207 rfl 9 4 Tryz.underlying9 Tryz.underlying207 Tryz.underlying4 (w.heap.size+1) (2*i+1) (nmI legs i++[x.from_]) rfl HS1.out (by unfold maxLen; omega) _ rfl rfl hs2 ?_); intro w2a hs_ hg_; go_loud (have HT2:=Lib.hid hs_; clear hs_; have HP2:=Lib.hid (HO1.out.grown hg_ (.inr (by intro hh; have h_:=World.ownsRow.lt HO1.out _ hh; omega))); have hd2:Up w w2a:=Below.grown hc1 hg_ hc1.size (fun k e=>by cases e; omega); have hz2:=hg_.size; have hp2:=Nat.le_trans hc1.size hg_.size); clear hg_) | (at_lookup; have h_:=HS1.out; (refine Zv _ rfl _ _ 207 rfl 9 4 Tryz.underlying9 Tryz.underlying207 Tryz.underlying4 ZaH (w.heap.size+1) (2*i+1) (nmI legs i++[x.from_]) rfl HS1.out _ rfl hs2 _ h2 ?_)) | (at_builtin; (have ho_:=HP1.out); go_loud (refine ZW Zg7 rfl (.tmp 34) (.tmp 36) rfl (base:=w.heap.size+2) (ys:=(nmI legs i)) (xs:=[x.from_]) (by rfl) (ho_.up (by (repeat (first | exact Up.rfl' _ | (refine Up.al _ ?_) | (refine Up.dr _ ?_) | (refine Up.dr1 ?_) | (refine Up.sc ?_ (by first | exact Nat.le_refl _ | (simp; done) | omega) _) | (refine Up.step (by assumption) ?_))))) 1 (by rfl) rfl (Rd.oneAt _ _ (x.from_) _ (by simp)) (by simp; omega) (by unfold maxLen; simp; omega) (by simp; omega) ?_); intro v1 w1 ho1 hg_ _ hu_; go_loud (have HS1:=Lib.hid ((HT1.out.alloc _).kept hg_ (by intro hh; have h_:=World.ownsRow.lt ho_ _ hh.symm; omega)); have hc1:Up w w1:=Below.grown (Up.al _ hd1) hg_ (by simp; omega) (fun k e=>by have h_:=World.ownsRow.lt ho_ _ e; omega); have d2:=(Zc2 hg_ (by simp; omega) (by intro hh; have h3_:wr.heap.size+1=g3:=Option.some.inj hh; omega)).trans (ZiL dz1); have hz1b:w1a.heap.size+1≤w1.heap.size:=(by have h_:=hg_.size; simpa using h_); have HO1:=Lib.hid ho1); clear ho1 ho_ hg_ hu_ HT1 HP1) | (at_mapUpdate; (have h_:=HS0.out); go_loud (refine Zam _ rfl _ _ _ 207 rfl 9 4 Tryz.underlying9 Tryz.underlying207 Tryz.underlying4 (w.heap.size+1) (2*i) (nmI legs i) rfl HS0.out (by unfold maxLen; omega) _ rfl rfl hs1 ?_); intro w1a hs_ hg_; go_loud (have HT1:=Lib.hid hs_; clear hs_; have HP1:=Lib.hid (HO0.out.grown hg_ (.inr (by intro hh; have h_:=World.ownsRow.lt HO0.out _ hh; omega))); have hd1:Up w w1a:=Below.grown hc0 hg_ hc0.size (fun k e=>by cases e; omega); have hz1:=hg_.size; have dz1:=(Zc2 hg_ (by omega) (by intro hh; injection hh with hh; omega)).trans d1; have hp1:=Nat.le_trans hc0.size hg_.size); clear hg_) | (at_lookup; have h_:=HS0.out; (refine Zv _ rfl _ _ 207 rfl 9 4 Tryz.underlying9 Tryz.underlying207 Tryz.underlying4 ZaH (w.heap.size+1) (2*i) (nmI legs i) rfl HS0.out _ rfl hs1 _ h1 ?_)))
     have hfin:nmI legs (i+1)=(nmI legs i++[x.from_]++[x.to_]):=by rw [hx1]; simp [dd,h1,h2]
     have hoF:=HO2.out
     obtain ⟨g4,c4,hv4,_⟩:=World.ownsRow.form hoF (by simp)
     exact ⟨⟨i+1,g4,c4,by omega,by go_num,by rw [hfin]; exact hv4,by rw [hfin,← hv4]; exact hoF,by rw [hfin]; exact HS2.out.mono (by omega),hc2⟩,by simp [intOf]; omega⟩
    | true=>
     refine wp_loop_rounds 3 ?_
     rw [rounds_succ]
     go_wp2_with (first | (at_lookup; have h_:=HS1.out; (refine Zv _ rfl _ _ 207 rfl 9 4 Tryz.underlying9 Tryz.underlying207 Tryz.underlying4 ZaH (w.heap.size+1) (2*i+1) (nmI legs i++[x.from_]) rfl HS1.out _ rfl hs2 _ h2 ?_)) | (at_builtin; (have ho_:=HP1.out); go_loud (refine ZW Zg7 rfl (.tmp 34) (.tmp 36) rfl (base:=w.heap.size+2) (ys:=(nmI legs i)) (xs:=[x.from_]) (by rfl) (ho_.up (by (repeat (first | exact Up.rfl' _ | (refine Up.al _ ?_) | (refine Up.dr _ ?_) | (refine Up.dr1 ?_) | (refine Up.sc ?_ (by first | exact Nat.le_refl _ | (simp; done) | omega) _) | (refine Up.step (by assumption) ?_))))) 1 (by rfl) rfl (Rd.oneAt _ _ (x.from_) _ (by simp)) (by simp; omega) (by unfold maxLen; simp; omega) (by simp; omega) ?_); intro v1 w1 ho1 hg_ _ hu_; go_loud (have HS1:=Lib.hid ((HT1.out.alloc _).kept hg_ (by intro hh; have h_:=World.ownsRow.lt ho_ _ hh.symm; omega)); have hc1:Up w w1:=Below.grown (Up.al _ hd1) hg_ (by simp; omega) (fun k e=>by have h_:=World.ownsRow.lt ho_ _ e; omega); have d2:=(Zc2 hg_ (by simp; omega) (by intro hh; have h3_:wr.heap.size+1=g3:=Option.some.inj hh; omega)).trans (ZiL dz1); have hz1b:w1a.heap.size+1≤w1.heap.size:=(by have h_:=hg_.size; simpa using h_); have HO1:=Lib.hid ho1); clear ho1 ho_ hg_ hu_ HT1 HP1) | (at_mapUpdate; (have h_:=HS0.out); go_loud (refine Zam _ rfl _ _ _ 207 rfl 9 4 Tryz.underlying9 Tryz.underlying207 Tryz.underlying4 (w.heap.size+1) (2*i) (nmI legs i) rfl HS0.out (by unfold maxLen; omega) _ rfl rfl hs1 ?_); intro w1a hs_ hg_; go_loud (have HT1:=Lib.hid hs_; clear hs_; have HP1:=Lib.hid (HO0.out.grown hg_ (.inr (by intro hh; have h_:=World.ownsRow.lt HO0.out _ hh; omega))); have hd1:Up w w1a:=Below.grown hc0 hg_ hc0.size (fun k e=>by cases e; omega); have hz1:=hg_.size; have dz1:=(Zc2 hg_ (by omega) (by intro hh; injection hh with hh; omega)).trans d1; have hp1:=Nat.le_trans hc0.size hg_.size); clear hg_) | (at_lookup; have h_:=HS0.out; (refine Zv _ rfl _ _ 207 rfl 9 4 Tryz.underlying9 Tryz.underlying207 Tryz.underlying4 ZaH (w.heap.size+1) (2*i) (nmI legs i) rfl HS0.out _ rfl hs1 _ h1 ?_)))
     rw [rounds_succ]
     go_wp2_with (first | (at_lookup; have h_:=HS1.out; (refine Zv _ rfl _ _ 207 rfl 9 4 Tryz.underlying9 Tryz.underlying207 Tryz.underlying4 ZaH (w.heap.size+1) (2*i+1) (nmI legs i++[x.from_]) rfl HS1.out _ rfl hs2 _ h2 ?_)) | (at_builtin; (have ho_:=HP1.out); go_loud (refine ZW Zg7 rfl (.tmp 34) (.tmp 36) rfl (base:=w.heap.size+2) (ys:=(nmI legs i)) (xs:=[x.from_]) (by rfl) (ho_.up (by (repeat (first | exact Up.rfl' _ | (refine Up.al _ ?_) | (refine Up.dr _ ?_) | (refine Up.dr1 ?_) | (refine Up.sc ?_ (by first | exact Nat.le_refl _ | (simp; done) | omega) _) | (refine Up.step (by assumption) ?_))))) 1 (by rfl) rfl (Rd.oneAt _ _ (x.from_) _ (by simp)) (by simp; omega) (by unfold maxLen; simp; omega) (by simp; omega) ?_); intro v1 w1 ho1 hg_ _ hu_; go_loud (have HS1:=Lib.hid ((HT1.out.alloc _).kept hg_ (by intro hh; have h_:=World.ownsRow.lt ho_ _ hh.symm; omega)); have hc1:Up w w1:=Below.grown (Up.al _ hd1) hg_ (by simp; omega) (fun k e=>by have h_:=World.ownsRow.lt ho_ _ e; omega); have d2:=(Zc2 hg_ (by simp; omega) (by intro hh; have h3_:wr.heap.size+1=g3:=Option.some.inj hh; omega)).trans (ZiL dz1); have hz1b:w1a.heap.size+1≤w1.heap.size:=(by have h_:=hg_.size; simpa using h_); have HO1:=Lib.hid ho1); clear ho1 ho_ hg_ hu_ HT1 HP1) | (at_mapUpdate; (have h_:=HS0.out); go_loud (refine Zam _ rfl _ _ _ 207 rfl 9 4 Tryz.underlying9 Tryz.underlying207 Tryz.underlying4 (w.heap.size+1) (2*i) (nmI legs i) rfl HS0.out (by unfold maxLen; omega) _ rfl rfl hs1 ?_); intro w1a hs_ hg_; go_loud (have HT1:=Lib.hid hs_; clear hs_; have HP1:=Lib.hid (HO0.out.grown hg_ (.inr (by intro hh; have h_:=World.ownsRow.lt HO0.out _ hh; omega))); have hd1:Up w w1a:=Below.grown hc0 hg_ hc0.size (fun k e=>by cases e; omega); have hz1:=hg_.size; have dz1:=(Zc2 hg_ (by omega) (by intro hh; injection hh with hh; omega)).trans d1; have hp1:=Nat.le_trans hc0.size hg_.size); clear hg_) | (at_lookup; have h_:=HS0.out; (refine Zv _ rfl _ _ 207 rfl 9 4 Tryz.underlying9 Tryz.underlying207 Tryz.underlying4 ZaH (w.heap.size+1) (2*i) (nmI legs i) rfl HS0.out _ rfl hs1 _ h1 ?_)))
     rw [rounds_succ]
     go_wp2_with (first | (at_lookup; have h_:=HS1.out; (refine Zv _ rfl _ _ 207 rfl 9 4 Tryz.underlying9 Tryz.underlying207 Tryz.underlying4 ZaH (w.heap.size+1) (2*i+1) (nmI legs i++[x.from_]) rfl HS1.out _ rfl hs2 _ h2 ?_)) | (at_builtin; (have ho_:=HP1.out); go_loud (refine ZW Zg7 rfl (.tmp 34) (.tmp 36) rfl (base:=w.heap.size+2) (ys:=(nmI legs i)) (xs:=[x.from_]) (by rfl) (ho_.up (by (repeat (first | exact Up.rfl' _ | (refine Up.al _ ?_) | (refine Up.dr _ ?_) | (refine Up.dr1 ?_) | (refine Up.sc ?_ (by first | exact Nat.le_refl _ | (simp; done) | omega) _) | (refine Up.step (by assumption) ?_))))) 1 (by rfl) rfl (Rd.oneAt _ _ (x.from_) _ (by simp)) (by simp; omega) (by unfold maxLen; simp; omega) (by simp; omega) ?_); intro v1 w1 ho1 hg_ _ hu_; go_loud (have HS1:=Lib.hid ((HT1.out.alloc _).kept hg_ (by intro hh; have h_:=World.ownsRow.lt ho_ _ hh.symm; omega)); have hc1:Up w w1:=Below.grown (Up.al _ hd1) hg_ (by simp; omega) (fun k e=>by have h_:=World.ownsRow.lt ho_ _ e; omega); have d2:=(Zc2 hg_ (by simp; omega) (by intro hh; have h3_:wr.heap.size+1=g3:=Option.some.inj hh; omega)).trans (ZiL dz1); have hz1b:w1a.heap.size+1≤w1.heap.size:=(by have h_:=hg_.size; simpa using h_); have HO1:=Lib.hid ho1); clear ho1 ho_ hg_ hu_ HT1 HP1) | (at_mapUpdate; (have h_:=HS0.out); go_loud (refine Zam _ rfl _ _ _ 207 rfl 9 4 Tryz.underlying9 Tryz.underlying207 Tryz.underlying4 (w.heap.size+1) (2*i) (nmI legs i) rfl HS0.out (by unfold maxLen; omega) _ rfl rfl hs1 ?_); intro w1a hs_ hg_; go_loud (have HT1:=Lib.hid hs_; clear hs_; have HP1:=Lib.hid (HO0.out.grown hg_ (.inr (by intro hh; have h_:=World.ownsRow.lt HO0.out _ hh; omega))); have hd1:Up w w1a:=Below.grown hc0 hg_ hc0.size (fun k e=>by cases e; omega); have hz1:=hg_.size; have dz1:=(Zc2 hg_ (by omega) (by intro hh; injection hh with hh; omega)).trans d1; have hp1:=Nat.le_trans hc0.size hg_.size); clear hg_) | (at_lookup; have h_:=HS0.out; (refine Zv _ rfl _ _ 207 rfl 9 4 Tryz.underlying9 Tryz.underlying207 Tryz.underlying4 ZaH (w.heap.size+1) (2*i) (nmI legs i) rfl HS0.out _ rfl hs1 _ h1 ?_)))
     have hfin:nmI legs (i+1)=(nmI legs i++[x.from_]):=by rw [hx1]; simp [dd,h1,h2]
     have hoF:=HO1.out
     obtain ⟨g4,c4,hv4,_⟩:=World.ownsRow.form hoF (by simp)
     exact ⟨⟨i+1,g4,c4,by omega,by go_num,by rw [hfin]; exact hv4,by rw [hfin,← hv4]; exact hoF,by rw [hfin]; exact HS1.out.mono (by omega),hc1⟩,by simp [intOf]; omega⟩
   | true=>
    cases h2:inL (nmI legs i) x.to_ with
    | false=>
     refine wp_loop_rounds 3 ?_
     rw [rounds_succ]
     go_wp2_with (first | (at_lookup; have h_:=HS0.out; (refine Zv _ rfl _ _ 207 rfl 9 4 Tryz.underlying9 Tryz.underlying207 Tryz.underlying4 ZaH (w.heap.size+1) (2*i) (nmI legs i) rfl HS0.out _ rfl hs1 _ h1 ?_)) | (at_lookup; have h_:=HS0.out; (refine Zv _ rfl _ _ 207 rfl 9 4 Tryz.underlying9 Tryz.underlying207 Tryz.underlying4 ZaH (w.heap.size+1) (2*i) (nmI legs i) rfl HS0.out _ rfl hs2 _ h2 ?_)) | (at_mapUpdate; (have h_:=HS0.out); go_loud (refine Zam _ rfl _ _ _ 207 rfl 9 4 Tryz.underlying9 Tryz.underlying207 Tryz.underlying4 (w.heap.size+1) (2*i) (nmI legs i) rfl HS0.out (by unfold maxLen; omega) _ rfl rfl hs2 ?_); intro w2a hs_ hg_; go_loud (have HT2:=Lib.hid hs_; clear hs_; have HP2:=Lib.hid (HO0.out.grown hg_ (.inr (by intro hh; have h_:=World.ownsRow.lt HO0.out _ hh; omega))); have hd2:Up w w2a:=Below.grown hc0 hg_ hc0.size (fun k e=>by cases e; omega); have hz2:=hg_.size; have hp2:=Nat.le_trans hc0.size hg_.size); clear hg_) | (at_builtin; (have ho_:=HP2.out); go_loud (refine ZW Zg7 rfl (.tmp 34) (.tmp 36) rfl (base:=w.heap.size+2) (ys:=(nmI legs i)) (xs:=[x.to_]) (by rfl) (ho_.up (by (repeat (first | exact Up.rfl' _ | (refine Up.al _ ?_) | (refine Up.dr _ ?_) | (refine Up.dr1 ?_) | (refine Up.sc ?_ (by first | exact Nat.le_refl _ | (simp; done) | omega) _) | (refine Up.step (by assumption) ?_))))) 1 (by rfl) rfl (Rd.oneAt _ _ (x.to_) _ (by simp)) (by simp; omega) (by unfold maxLen; simp; omega) (by simp; omega) ?_); intro v2 w2 ho2 hg_ _ hu_; go_loud (have HS2:=Lib.hid ((HT2.out.alloc _).kept hg_ (by intro hh; have h_:=World.ownsRow.lt ho_ _ hh.symm; omega)); have hc2:Up w w2:=Below.grown (Up.al _ hd2) hg_ (by simp; omega) (fun k e=>by have h_:=World.ownsRow.lt ho_ _ e; omega); have hz2b:w2a.heap.size+1≤w2.heap.size:=(by have h_:=hg_.size; simpa using h_); have HO2:=Lib.hid ho2); clear ho2 ho_ hg_ hu_ HT2 HP2))
     rw [rounds_succ]
     go_wp2_with (first | (at_lookup; have h_:=HS0.out; (refine Zv _ rfl _ _ 207 rfl 9 4 Tryz.underlying9 Tryz.underlying207 Tryz.underlying4 ZaH (w.heap.size+1) (2*i) (nmI legs i) rfl HS0.out _ rfl hs1 _ h1 ?_)) | (at_lookup; have h_:=HS0.out; (refine Zv _ rfl _ _ 207 rfl 9 4 Tryz.underlying9 Tryz.underlying207 Tryz.underlying4 ZaH (w.heap.size+1) (2*i) (nmI legs i) rfl HS0.out _ rfl hs2 _ h2 ?_)) | (at_mapUpdate; (have h_:=HS0.out); go_loud (refine Zam _ rfl _ _ _ 207 rfl 9 4 Tryz.underlying9 Tryz.underlying207 Tryz.underlying4 (w.heap.size+1) (2*i) (nmI legs i) rfl HS0.out (by unfold maxLen; omega) _ rfl rfl hs2 ?_); intro w2a hs_ hg_; go_loud (have HT2:=Lib.hid hs_; clear hs_; have HP2:=Lib.hid (HO0.out.grown hg_ (.inr (by intro hh; have h_:=World.ownsRow.lt HO0.out _ hh; omega))); have hd2:Up w w2a:=Below.grown hc0 hg_ hc0.size (fun k e=>by cases e; omega); have hz2:=hg_.size; have hp2:=Nat.le_trans hc0.size hg_.size); clear hg_) | (at_builtin; (have ho_:=HP2.out); go_loud (refine ZW Zg7 rfl (.tmp 34) (.tmp 36) rfl (base:=w.heap.size+2) (ys:=(nmI legs i)) (xs:=[x.to_]) (by rfl) (ho_.up (by (repeat (first | exact Up.rfl' _ | (refine Up.al _ ?_) | (refine Up.dr _ ?_) | (refine Up.dr1 ?_) | (refine Up.sc ?_ (by first | exact Nat.le_refl _ | (simp; done) | omega) _) | (refine Up.step (by assumption) ?_))))) 1 (by rfl) rfl (Rd.oneAt _ _ (x.to_) _ (by simp)) (by simp; omega) (by unfold maxLen; simp; omega) (by simp; omega) ?_); intro v2 w2 ho2 hg_ _ hu_; go_loud (have HS2:=Lib.hid ((HT2.out.alloc _).kept hg_ (by intro hh; have h_:=World.ownsRow.lt ho_ _ hh.symm; omega)); have hc2:Up w w2:=Below.grown (Up.al _ hd2) hg_ (by simp; omega) (fun k e=>by have h_:=World.ownsRow.lt ho_ _ e; omega); have hz2b:w2a.heap.size+1≤w2.heap.size:=(by have h_:=hg_.size; simpa using h_); have HO2:=Lib.hid ho2); clear ho2 ho_ hg_ hu_ HT2 HP2))
     rw [rounds_succ]
     go_wp2_with (first | (at_lookup; have h_:=HS0.out; (refine Zv _ rfl _ _ 207 rfl 9 4 Tryz.underlying9 Tryz.underlying207 Tryz.underlying4 ZaH (w.heap.size+1) (2*i) (nmI legs i) rfl HS0.out _ rfl hs1 _ h1 ?_)) | (at_lookup; have h_:=HS0.out; (refine Zv _ rfl _ _ 207 rfl 9 4 Tryz.underlying9 Tryz.underlying207 Tryz.underlying4 ZaH (w.heap.size+1) (2*i) (nmI legs i) rfl HS0.out _ rfl hs2 _ h2 ?_)) | (at_mapUpdate; (have h_:=HS0.out); go_loud (refine Zam _ rfl _ _ _ 207 rfl 9 4 Tryz.underlying9 Tryz.underlying207 Tryz.underlying4 (w.heap.size+1) (2*i) (nmI legs i) rfl HS0.out (by unfold maxLen; omega) _ rfl rfl hs2 ?_); intro w2a hs_ hg_; go_loud (have HT2:=Lib.hid hs_; clear hs_; have HP2:=Lib.hid (HO0.out.grown hg_ (.inr (by intro hh; have h_:=World.ownsRow.lt HO0.out _ hh; omega))); have hd2:Up w w2a:=Below.grown hc0 hg_ hc0.size (fun k e=>by cases e; omega); have hz2:=hg_.size; have hp2:=Nat.le_trans hc0.size hg_.size); clear hg_) | (at_builtin; (have ho_:=HP2.out); go_loud (refine ZW Zg7 rfl (.tmp 34) (.tmp 36) rfl (base:=w.heap.size+2) (ys:=(nmI legs i)) (xs:=[x.to_]) (by rfl) (ho_.up (by (repeat (first | exact Up.rfl' _ | (refine Up.al _ ?_) | (refine Up.dr _ ?_) | (refine Up.dr1 ?_) | (refine Up.sc ?_ (by first | exact Nat.le_refl _ | (simp; done) | omega) _) | (refine Up.step (by assumption) ?_))))) 1 (by rfl) rfl (Rd.oneAt _ _ (x.to_) _ (by simp)) (by simp; omega) (by unfold maxLen; simp; omega) (by simp; omega) ?_); intro v2 w2 ho2 hg_ _ hu_; go_loud (have HS2:=Lib.hid ((HT2.out.alloc _).kept hg_ (by intro hh; have h_:=World.ownsRow.lt ho_ _ hh.symm; omega)); have hc2:Up w w2:=Below.grown (Up.al _ hd2) hg_ (by simp; omega) (fun k e=>by have h_:=World.ownsRow.lt ho_ _ e; omega); have hz2b:w2a.heap.size+1≤w2.heap.size:=(by have h_:=hg_.size; simpa using h_); have HO2:=Lib.hid ho2); clear ho2 ho_ hg_ hu_ HT2 HP2))
     have hfin:nmI legs (i+1)=(nmI legs i++[x.to_]):=by rw [hx1]; simp [dd,h1,h2]
     have hoF:=HO2.out
     obtain ⟨g4,c4,hv4,_⟩:=World.ownsRow.form hoF (by simp)
     exact ⟨⟨i+1,g4,c4,by omega,by go_num,by rw [hfin]; exact hv4,by rw [hfin,← hv4]; exact hoF,by rw [hfin]; exact HS2.out.mono (by omega),hc2⟩,by simp [intOf]; omega⟩
    | true=>
     refine wp_loop_rounds 3 ?_
     rw [rounds_succ]
     go_wp2_with (first | (at_lookup; have h_:=HS0.out; (refine Zv _ rfl _ _ 207 rfl 9 4 Tryz.underlying9 Tryz.underlying207 Tryz.underlying4 ZaH (w.heap.size+1) (2*i) (nmI legs i) rfl HS0.out _ rfl hs1 _ h1 ?_)) | (at_lookup; have h_:=HS0.out; (refine Zv _ rfl _ _ 207 rfl 9 4 Tryz.underlying9 Tryz.underlying207 Tryz.underlying4 ZaH (w.heap.size+1) (2*i) (nmI legs i) rfl HS0.out _ rfl hs2 _ h2 ?_)))
     rw [rounds_succ]
     go_wp2_with (first | (at_lookup; have h_:=HS0.out; (refine Zv _ rfl _ _ 207 rfl 9 4 Tryz.underlying9 Tryz.underlying207 Tryz.underlying4 ZaH (w.heap.size+1) (2*i) (nmI legs i) rfl HS0.out _ rfl hs1 _ h1 ?_)) | (at_lookup; have h_:=HS0.out; (refine Zv _ rfl _ _ 207 rfl 9 4 Tryz.underlying9 Tryz.underlying207 Tryz.underlying4 ZaH (w.heap.size+1) (2*i) (nmI legs i) rfl HS0.out _ rfl hs2 _ h2 ?_)))
     rw [rounds_succ]
     go_wp2_with (first | (at_lookup; have h_:=HS0.out; (refine Zv _ rfl _ _ 207 rfl 9 4 Tryz.underlying9 Tryz.underlying207 Tryz.underlying4 ZaH (w.heap.size+1) (2*i) (nmI legs i) rfl HS0.out _ rfl hs1 _ h1 ?_)) | (at_lookup; have h_:=HS0.out; (refine Zv _ rfl _ _ 207 rfl 9 4 Tryz.underlying9 Tryz.underlying207 Tryz.underlying4 ZaH (w.heap.size+1) (2*i) (nmI legs i) rfl HS0.out _ rfl hs2 _ h2 ?_)))
     have hfin:nmI legs (i+1)=(nmI legs i):=by rw [hx1]; simp [dd,h1,h2]
     exact ⟨⟨i+1,g3,c3',by omega,by go_num,by rw [hfin],by rw [hfin]; exact HO0.out,by rw [hfin]; exact HS0.out.mono (by omega),hc0⟩,by simp [intOf]; omega⟩
  ·obtain rfl:i=legs.length:=by omega
   have hlen:=Zsq legs legs.length
   go_wp2_with fail
   refine (ZoU g3 c3' _ _ (nmI legs legs.length) _ ho rfl (by omega)).mono ?_
   rintro e w1 ⟨rfl,ho1,hg1⟩
   have hu1:Up w w1:=Below.grown hb hg1 hb.size (fun k e=>by cases e; have h_:=World.ownsRow.lt ho g3 rfl; omega)
   go_wp2_with fail
   go_ret
   exact ⟨_,rfl,by simpa [Zp0] using ho1.more (by omega),hu1⟩
end Go.Proofs.YtmcdjilbkmhfoaaGreat
namespace Go.Proofs.YtmcdjilbkmhfoaaGreat
set_option maxRecDepth 10000
open Go.RowKit
set_option linter.unusedVariables false
set_option linter.unusedSimpArgs false
theorem Zku {α:Type} [Enc α] {c:α→List PV} {T:TypeId} {S:Nat→Prop} {β:Nat→Option Blk} {w w':World} {v:Value} {ys:List α} (hk:Ok w (own0 β) (E1 S β 0) w []) (ho:Own w' w.heap.size T v ys) (hu:Up w w')
 (hc:∀ (x:α),(c x).length=Enc.k α∧∀ (j:Nat) (p:PV),(c x)[j]?=some p→∃ u,(Enc.cells x)[j]?=some u∧u.oneCell'=true∧∀ (w:World) (E:Env),Rep w E p u):
 ∃ E',Ok w (own0 β) E' w' [some ⟨T,Enc.k α,ys.map c⟩]∧(∀ b,S b→E'.S b)∧(∀ b,E'.S b→S b∨w.heap.size≤b∨own0 β b)∧(∀ l B,l<0→E'.β l=some B→β l=some B)∧Rep w' E' (.ms 0) v:=by
 have hesl:∀ (i:Nat) (cs:List PV),(ys.map c)[i]?=some cs→cs.length=Enc.k α:=by
  intro i cs hi
  rw [List.getElem?_map] at hi
  obtain ⟨y,_,rfl⟩:=Option.map_eq_some_iff.1 hi
  exact (hc y).1
 have key:∀ (B:Blk),v=B.sv→v.oneCell'=true→(B.z=false→w.heap.size≤B.b∧B.b<w'.heap.size)→(∀ E,ZeT w' E ⟨T,Enc.k α,ys.map c⟩ B)→
  ∃ E',Ok w (own0 β) E' w' [some ⟨T,Enc.k α,ys.map c⟩]∧(∀ b,S b→E'.S b)∧(∀ b,E'.S b→S b∨w.heap.size≤b∨own0 β b)∧(∀ l B,l<0→E'.β l=some B→β l=some B)∧Rep w' E' (.ms 0) v:=by
  intro B hv h1 hB hb
  obtain ⟨h2,_⟩:=hk.new (ν:=0) (fun h=>absurd h (Nat.not_lt_zero 0)) ⟨T,Enc.k α,ys.map c⟩ B hu.os hu.tape hu.output hu.size (fun b hb=>hu.block b hb) hB (fun _=>hb _)
  refine ⟨_,h2,fun b h=>h,fun b h=>.inl h,fun l B h=>absurd h (Nat.not_lt_zero l),.ms 0 v (.inl rfl) h1 fun B' hB'=>?_⟩
  have:B'=B:=by simpa [Env.add,eq_comm] using hB'
  rw [this]; exact hv
 rcases ho.2 with ⟨hv,h0⟩ | ⟨g,cap,cur,hv,hB,hg,hnc,hcm,hcs,ht⟩
 ·have hy:ys=[]:=List.length_eq_zero_iff.1 h0
  subst hy
  exact key ⟨0,0,0,Enc.k α,T,true⟩ (by rw [hv]; rfl) (by rw [hv]; rfl) (fun h=>by cases h) fun E=>⟨rfl,rfl,rfl,Enc.pos,Nat.le_refl _,Nat.zero_le _,hesl,fun _=>rfl,fun h=>by cases h⟩
 ·refine key ⟨g,cap,ys.length,Enc.k α,T,false⟩ (by rw [hv]; rfl) (by rw [hv]; rfl) (fun _=>⟨hB,(Array.getElem?_eq_some_iff.1 hg).1⟩) fun E=>⟨rfl,by simp,rfl,Enc.pos,hnc,hcm,hesl,(fun h=>by cases h),fun _=>⟨cur,hg,hcs,fun i cs j p hi hj=>?_⟩⟩
  rw [List.getElem?_map] at hi
  obtain ⟨y,hy,rfl⟩:=Option.map_eq_some_iff.1 hi
  obtain ⟨hl,hcc⟩:=hc y
  obtain ⟨u,hu1,hu2,hu3⟩:=hcc j p hj
  refine ⟨u,?_,hu2,hu3 _ _⟩
  have hf:=Zh4 hy hu1
  have hlt:=(List.getElem?_eq_some_iff.1 hf).1
  rw [ZeL] at hlt
  have:=congrArg (fun l:List Value=>l[i*Enc.k α+j]?) ht
  have h2:(cur.toList.take (ys.length*Enc.k α))[i*Enc.k α+j]?=(flat ys)[i*Enc.k α+j]?:=this
  rw [List.getElem?_take_of_lt hlt,Array.getElem?_toList,hf] at h2
  exact h2
theorem Zsr (n:Za):nmI n.legs n.legs.length=(ZdQ n).foldl dd []:=by
 have h:∀ (l:List YLeg) (acc:List ByteArray),l.foldl (fun out l=>dd (dd out l.from_) l.to_) acc=(l.flatMap fun l=>[l.from_,l.to_]).foldl dd acc:=by
  intro l
  induction l with
  | nil=>intro acc; rfl
  | cons x l ih=>intro acc; simp only [List.foldl_cons,List.flatMap_cons,List.foldl_append,List.foldl_nil,ih]
 unfold nmI ZdQ
 rw [List.take_length]
 exact h _ _
def Z4 (n:Za):Option (List ByteArray):=
 if n.legs.length≤1048576∧(n.legs.all fun l=>decide (l.from_.size≤maxLen∧l.to_.size≤maxLen))=true then some (srtS ((ZdQ n).foldl dd [])) else none
theorem Zji (n:Za) {r:(List ByteArray)} (H:Z4 n=some r):Zev Tryz.prog 141 [.ag (Zr n)] [] (.ms 0) [some ⟨9,1,r.map cStr⟩]:=by
 unfold Z4 at H
 split at H
 case isFalse=>cases H
 rename_i hok
 obtain ⟨hn,hs⟩:=hok
 obtain rfl:=Option.some.inj H
 have hs':∀ l∈n.legs,l.from_.size≤maxLen∧l.to_.size≤maxLen:=fun l hl=>of_decide_eq_true (List.all_eq_true.1 hs l hl)
 intro S β w vs hk hl ha
 obtain ⟨x,hx0,hr⟩:=ha 0 _ rfl
 have hv:vs=#[x]:=by
  have h1:vs.size=1:=hl
  apply Array.ext (by simp [h1])
  intro i h2 h3
  have:i=0:=by omega
  subst this
  have:=(Array.getElem?_eq_some_iff.1 hx0).2
  simpa using this
 subst hv
 obtain ⟨us,rfl,hul,hu1,hur⟩:=hr.ag_inv
 have hul':us.size=3:=hul
 have h0:us[0]?=some us[0]:=Array.getElem?_eq_getElem (by omega)
 have hus:us=#[us[0],us[1],us[2]]:=by
  apply Array.ext (by simp [hul'])
  intro i h2 h3
  match i,h2 with
  | 0,_=>rfl
  | 1,_=>rfl
  | 2,_=>rfl
  | i+3,h2=>omega
 have hr0:=hur 0 (.sl (n.legs.map cLeg)) _ rfl h0
 have hsl:∃ A c,us[0]=.slice A n.legs.length c∧n.legs.length≤c∧Rd w w.heap.size A n.legs:=by
  cases hr0 with
  | c h=>
   generalize hq:PV.sl (n.legs.map cLeg)=q at h
   generalize us[0]=y at h
   cases h with
   | v x h=>cases hq
   | ud=>cases hq
   | un=>cases hq
   | rp=>cases hq
   | fn=>cases hq
   | nil A c=>
    have:n.legs=[]:=by simpa using hq
    exact ⟨A,c,by rw [this]; rfl,by rw [this]; simp,by rw [this]; exact Rd.nil_⟩
   | sl es b off k c u hS hkp hnc hm hes hcc h1 hrr=>
    obtain rfl:n.legs.map cLeg=es:=by simpa using hq
    refine ⟨_,c,by simp,by simpa using hnc,fun hne=>⟨b,off,rfl,hk.sz b hS,fun j u' hu'=>?_⟩⟩
    have hpos:0<n.legs.length:=List.length_pos_iff.2 hne
    have hk6:k=6:=(hes 0 (cLeg n.legs[0]) (by simp [hpos])).symm
    subst hk6
    have hj:=(List.getElem?_eq_some_iff.1 hu').1
    rw [ZeL] at hj
    have hj6:j<n.legs.length*6:=hj
    have hi:j / 6<n.legs.length:=by omega
    have hy:n.legs[j / 6]?=some n.legs[j / 6]:=List.getElem?_eq_getElem hi
    have hjj:j=(j / 6)*6+j % 6:=by omega
    have hm6:j % 6<6:=Nat.mod_lt _ (by decide)
    have hp:∃ p u'',(cLeg n.legs[j / 6])[j % 6]?=some p∧(Enc.cells n.legs[j / 6])[j % 6]?=some u''∧∀ z,RepC w S p z→z=u'':=by
     generalize n.legs[j / 6]=y
     generalize j % 6=m at hm6
     match m,hm6 with
     | 0,_=>exact ⟨_,_,rfl,rfl,fun z hz=>by cases hz; rfl⟩
     | 1,_=>exact ⟨_,_,rfl,rfl,fun z hz=>by cases hz; rfl⟩
     | 2,_=>exact ⟨_,_,rfl,rfl,fun z hz=>by cases hz; rfl⟩
     | 3,_=>exact ⟨_,_,rfl,rfl,fun z hz=>by cases hz; rfl⟩
     | 4,_=>exact ⟨_,_,rfl,rfl,fun z hz=>by cases hz; rfl⟩
     | 5,_=>exact ⟨_,_,rfl,rfl,fun z hz=>by cases hz; rfl⟩
    obtain ⟨p,u'',hp1,hp2,hp3⟩:=hp
    have hf:=Zh4 hy hp2
    rw [show Enc.k YLeg=6 from rfl,← hjj] at hf
    obtain rfl:u''=u':=Option.some.inj (hf.symm.trans hu')
    have e1:(n.legs.map cLeg)[j / 6]?=some (cLeg n.legs[j / 6]):=by simp [hi]
    have hc:=hcc (j / 6) _ (j % 6) p e1 hp1
    have hz:=hp3 _ (hrr (j / 6) _ (j % 6) p e1 hp1)
    rw [hz] at hc
    rw [show off+j=off+j / 6*6+j % 6 by omega]
    exact hc
 obtain ⟨A,c,hA,hcap,hrd⟩:=hsl
 rw [hus,hA]
 refine (ZoI A n.legs _ c _ _ w hrd rfl hcap hn hs').mono ?_
 rintro e w' ⟨v,rfl,ho,hu⟩
 rw [Zsr] at ho
 obtain ⟨E',h1,h2,h3,h4,h5⟩:=Zku (c:=cStr) hk ho hu (fun x=>⟨rfl,fun j p hj=>by
  cases j with
  | zero=>obtain rfl:vs x=p:=by simpa using hj
          exact ⟨_,rfl,rfl,fun w E=>.c (.v _ rfl)⟩
  | succ j=>simp [cStr] at hj⟩)
 exact ⟨v,E',rfl,h1,h2,h3,h4,h5⟩
instance (n:Za):CT Tryz.prog (Z4 n):=⟨141,[.ag (Zr n)],[],fun r=>.ms 0,fun r=>[some ⟨9,1,r.map cStr⟩],Zji n⟩
set_option maxHeartbeats 16000000
def ZbD (c:ZA):Option (Int × ZA):=
 cond (decide (c.i<(c.b.length:Int)))
 ((getI c.b c.i).bind fun y1=>
 some ((IntKind.i64.wrap (BitVec.ofInt IntKind.i64.bits (w64 ((IntKind.i64.wrap (BitVec.ofInt IntKind.i64.bits (IntKind.i64.wrap (BitVec.ofInt IntKind.i64.bits (Int.fdiv (w64 ((w64 (c.h*6364136223846793005))+1442695040888963407)) (2 ^ (min (Int.toNat 35) IntKind.i64.bits))) ^^^ BitVec.ofInt IntKind.i64.bits (Int.fdiv (w64 ((w64 (c.h*6364136223846793005))+1442695040888963407)) (2 ^ (min (Int.toNat 45) IntKind.i64.bits)))).toNat) &&& BitVec.ofInt IntKind.i64.bits 255).toNat)+(IntKind.i64.wrap y1.v))) &&& BitVec.ofInt IntKind.i64.bits 255).toNat),(⟨c.b,(w64 (c.i+1)),(w64 ((w64 (c.h*6364136223846793005))+1442695040888963407))⟩:ZA)))
 (some ((IntKind.i64.wrap (BitVec.ofInt IntKind.i64.bits (IntKind.i64.wrap (BitVec.ofInt IntKind.i64.bits (Int.fdiv (w64 ((w64 (c.h*6364136223846793005))+1442695040888963407)) (2 ^ (min (Int.toNat 35) IntKind.i64.bits))) ^^^ BitVec.ofInt IntKind.i64.bits (Int.fdiv (w64 ((w64 (c.h*6364136223846793005))+1442695040888963407)) (2 ^ (min (Int.toNat 45) IntKind.i64.bits)))).toNat) &&& BitVec.ofInt IntKind.i64.bits 255).toNat),(⟨c.b,c.i,(w64 ((w64 (c.h*6364136223846793005))+1442695040888963407))⟩:ZA)))
instance (c:ZA):CT Tryz.prog (ZbD c):=⟨180,[.be 0 0 0],[some ⟨187,3,[[.sl (c.b.map cB8),vi c.i,vi c.h]]⟩],fun r=>vi r.1,fun r=>[some ⟨187,3,[[.sl (r.2.b.map cB8),vi r.2.i,vi r.2.h]]⟩],fun H=>by replace H:=H0 H; unfold ZbD at H; exact Zh Tryz.func180 rfl Tryz.ntmps180 Tryz.results180 fun Q hQ hQn=>wk3⟩
def Zl (c:ZA) (n:Int):Option (Int × ZA):=
 cond (decide (n≤0))
 (some (0,c))
 (cond (decide (n≤256))
 ((rhoM [0]).bind fun _=>
 (ZbD c).bind fun y1=>
 (chk (decide (n≠0))).bind fun _=>
 some ((Int.tmod y1.1 n),y1.2))
 ((rhoM [0]).bind fun _=>
 (ZbD c).bind fun y2=>
 (rhoM [0]).bind fun _=>
 (ZbD y2.2).bind fun y3=>
 (rhoM [0]).bind fun _=>
 (ZbD y3.2).bind fun y4=>
 (chk (decide (n≠0))).bind fun _=>
 some ((Int.tmod (w64 ((w64 ((w64 (y2.1*65536))+(w64 (y3.1*256))))+y4.1)) n),y4.2)))
instance (c:ZA) (n:Int):CT Tryz.prog (Zl c n):=⟨106,[.be 0 0 0,vi n],[some ⟨187,3,[[.sl (c.b.map cB8),vi c.i,vi c.h]]⟩],fun r=>vi r.1,fun r=>[some ⟨187,3,[[.sl (r.2.b.map cB8),vi r.2.i,vi r.2.h]]⟩],fun H=>by replace H:=H0 H; unfold Zl at H; exact Zh Tryz.func106 rfl Tryz.ntmps106 Tryz.results106 fun Q hQ hQn=>wk3⟩
def ZU (c:ZA) (n:Int):Option (Bool × ZA):=
 (rhoM [0]).bind fun _=>
 (Zl c n).bind fun y1=>
 some ((decide (y1.1=0)),y1.2)
instance (c:ZA) (n:Int):CT Tryz.prog (ZU c n):=⟨104,[.be 0 0 0,vi n],[some ⟨187,3,[[.sl (c.b.map cB8),vi c.i,vi c.h]]⟩],fun r=>vb r.1,fun r=>[some ⟨187,3,[[.sl (r.2.b.map cB8),vi r.2.i,vi r.2.h]]⟩],fun H=>by replace H:=H0 H; unfold ZU at H; exact Zh Tryz.func104 rfl Tryz.ntmps104 Tryz.results104 fun Q hQ hQn=>wk3⟩
def ZcR (c:ZA) (list:List ByteArray):Option (ByteArray × ZA × (List ByteArray)):=
 (rhoM [0]).bind fun _=>
 (Zl c (list.length:Int)).bind fun y1=>
 (getI list y1.1).bind fun y2=>
 some (y2,y1.2,list)
instance (c:ZA) (list:List ByteArray):CT Tryz.prog (ZcR c list):=⟨179,[.be 0 0 0,.ms 1],[some ⟨187,3,[[.sl (c.b.map cB8),vi c.i,vi c.h]]⟩,some ⟨9,1,list.map cStr⟩],fun r=>vs r.1,fun r=>[some ⟨187,3,[[.sl (r.2.1.b.map cB8),vi r.2.1.i,vi r.2.1.h]]⟩,some ⟨9,1,r.2.2.map cStr⟩],fun H=>by replace H:=H0 H; unfold ZcR at H; exact Zh Tryz.func179 rfl Tryz.ntmps179 Tryz.results179 fun Q hQ hQn=>wk3⟩
def ZbQ (c:ZA):Option (ByteArray × ZA):=
 (rhoM [0,1]).bind fun _=>
 (ZcR c ([⟨#[65,77,83]⟩,⟨#[66,82,85]⟩,⟨#[67,68,71]⟩,⟨#[68,85,66]⟩,⟨#[69,68,73]⟩,⟨#[70,82,65]⟩,⟨#[71,79,84]⟩])).bind fun y1=>
 some (y1.1,y1.2.1)
instance (c:ZA):CT Tryz.prog (ZbQ c):=⟨249,[.be 0 0 0],[some ⟨187,3,[[.sl (c.b.map cB8),vi c.i,vi c.h]]⟩],fun r=>vs r.1,fun r=>[some ⟨187,3,[[.sl (r.2.b.map cB8),vi r.2.i,vi r.2.h]]⟩],fun H=>by replace H:=H0 H; unfold ZbQ at H; exact Zh Tryz.func249 rfl Tryz.ntmps249 Tryz.results249 fun Q hQ hQn=>wk3⟩
def Zbz (c:ZA) (list:List Int):Option (Int × ZA × (List Int)):=
 (rhoM [0]).bind fun _=>
 (Zl c (list.length:Int)).bind fun y1=>
 (getI list y1.1).bind fun y2=>
 some (y2,y1.2,list)
instance (c:ZA) (list:List Int):CT Tryz.prog (Zbz c list):=⟨105,[.be 0 0 0,.ms 1],[some ⟨187,3,[[.sl (c.b.map cB8),vi c.i,vi c.h]]⟩,some ⟨3,1,list.map cInt⟩],fun r=>vi r.1,fun r=>[some ⟨187,3,[[.sl (r.2.1.b.map cB8),vi r.2.1.i,vi r.2.1.h]]⟩,some ⟨3,1,r.2.2.map cInt⟩],fun H=>by replace H:=H0 H; unfold Zbz at H; exact Zh Tryz.func105 rfl Tryz.ntmps105 Tryz.results105 fun Q hQ hQn=>wk3⟩
def Zet (y3:Int × ZA) (y4:Int × ZA) (y5:Int × ZA) (y6:Int × ZA) (s0:(List YB8) × Int × Int × ByteArray × ByteArray):Option (((List YB8) × Int × Int × ByteArray × ByteArray) ⊕ ((List YB8) × Int × Int × ByteArray × ByteArray)):=
 cond (decide (s0.2.2.2.1=s0.2.2.2.2))
 ((rhoM [0,3]).bind fun _=>
 (ZcR (⟨s0.1,s0.2.1,s0.2.2.1⟩:ZA) ([⟨#[65,77,83]⟩,⟨#[66,82,85]⟩,⟨#[67,68,71]⟩])).bind fun y7=>
 cond (decide (s0.2.2.2.1=y7.1))
 (some (.inl (y7.2.1.b,y7.2.1.i,y7.2.1.h,⟨#[68,85,66]⟩,y7.1)))
 (some (.inl (y7.2.1.b,y7.2.1.i,y7.2.1.h,s0.2.2.2.1,y7.1))))
 (some (.inr (s0.1,s0.2.1,s0.2.2.1,s0.2.2.2.1,s0.2.2.2.2)))
instance (y3:Int × ZA) (y4:Int × ZA) (y5:Int × ZA) (y6:Int × ZA):ZP (Zet y3 y4 y5 y6):=⟨fun s0=>(.be 0 0 0::.un::.be 1 0 0::.be 2 0 0::(U 43 [])),fun s0=>[some ⟨187,3,[[.sl (s0.1.map cB8),vi s0.2.1,vi s0.2.2.1]]⟩,some ⟨67,6,[[vs (⟨#[]⟩),vs (⟨#[]⟩),vi 0,vi 0,vi 0,vi 0]]⟩,some ⟨67,6,[[vs s0.2.2.2.1,vs s0.2.2.2.2,vi (w64 (30*y3.1)),vi (w64 (30*(w64 (1+y4.1)))),vi (w64 (1+y5.1)),vi (w64 (1000*y6.1))]]⟩]⟩
def ZeE (c:ZA):Option (YLeg × ZA):=
 (rhoM [0]).bind fun _=>
 (ZbQ c).bind fun y1=>
 (rhoM [0]).bind fun _=>
 (ZbQ y1.2).bind fun y2=>
 (rhoM [0]).bind fun _=>
 (Zl y2.2 48).bind fun y3=>
 (rhoM [0]).bind fun _=>
 (Zl y3.2 40).bind fun y4=>
 (rhoM [0]).bind fun _=>
 (Zl y4.2 127).bind fun y5=>
 (rhoM [0]).bind fun _=>
 (Zl y5.2 60).bind fun y6=>
 (Zj (Zet y3 y4 y5 y6) NN (y6.2.b,y6.2.i,y6.2.h,y1.1,y2.1)).bind (fun o0=>
 (rhoM [0]).bind fun _=>
 (ZU (⟨o0.1,o0.2.1,o0.2.2.1⟩:ZA) 2).bind fun y8=>
 cond y8.1
 ((rhoM [0]).bind fun _=>
 (ZU y8.2 9).bind fun y9=>
 cond y9.1
 ((rhoM [0,3]).bind fun _=>
 (Zbz y9.2 ([1,1440,4320])).bind fun y10=>
 some ((⟨o0.2.2.2.1,o0.2.2.2.2,(w64 (30*y3.1)),y10.1,127,(w64 (1000*y6.1))⟩:YLeg),y10.2.1))
 (some ((⟨o0.2.2.2.1,o0.2.2.2.2,(w64 (30*y3.1)),(w64 (30*(w64 (1+y4.1)))),127,(w64 (1000*y6.1))⟩:YLeg),y9.2)))
 ((rhoM [0]).bind fun _=>
 (ZU y8.2 9).bind fun y11=>
 cond y11.1
 ((rhoM [0,3]).bind fun _=>
 (Zbz y11.2 ([1,1440,4320])).bind fun y12=>
 some ((⟨o0.2.2.2.1,o0.2.2.2.2,(w64 (30*y3.1)),y12.1,(w64 (1+y5.1)),(w64 (1000*y6.1))⟩:YLeg),y12.2.1))
 (some ((⟨o0.2.2.2.1,o0.2.2.2.2,(w64 (30*y3.1)),(w64 (30*(w64 (1+y4.1)))),(w64 (1+y5.1)),(w64 (1000*y6.1))⟩:YLeg),y11.2))))
instance (c:ZA):CT Tryz.prog (ZeE c):=⟨256,[.be 0 0 0],[some ⟨187,3,[[.sl (c.b.map cB8),vi c.i,vi c.h]]⟩],fun r=>.ag [vs r.1.from_,vs r.1.to_,vi r.1.start,vi r.1.takes,vi r.1.days,vi r.1.room],fun r=>[some ⟨187,3,[[.sl (r.2.b.map cB8),vi r.2.i,vi r.2.h]]⟩],fun H=>by replace H:=H0 H; unfold ZeE at H; exact Zh Tryz.func256 rfl Tryz.ntmps256 Tryz.results256 fun Q hQ hQn=>wk3⟩
def Zd6 (most:Int) (y1:Int × ZA) (s0:Int × (List YB8) × Int × Int × (List YLeg)):Option ((Int × (List YB8) × Int × Int × (List YLeg)) ⊕ ((List YB8) × Int × Int × (List YLeg))):=
 cond (decide (0<s0.1))
 ((rhoM [0]).bind fun _=>
 (ZeE (⟨s0.2.1,s0.2.2.1,s0.2.2.2.1⟩:ZA)).bind fun y3=>
 (chk (ZQ ((s0.2.2.2.2:List YLeg).length+([y3.1]:List YLeg).length) 64)).bind fun _=>
 (rhoM [0]).bind fun _=>
 (ZU y3.2 3).bind fun y4=>
 cond y4.1
 (cond (decide ((((s0.2.2.2.2:List YLeg)++[y3.1]).length:Int)<most))
 ((getI ((s0.2.2.2.2:List YLeg)++[y3.1]) (w64 ((((s0.2.2.2.2:List YLeg)++[y3.1]).length:Int)-1))).bind fun y5=>
 (getI ((s0.2.2.2.2:List YLeg)++[y3.1]) (w64 ((((s0.2.2.2.2:List YLeg)++[y3.1]).length:Int)-1))).bind fun y6=>
 (drwL 8 [3]).bind fun _=>
 (rhoM [0]).bind fun _=>
 (Zl y4.2 20).bind fun y7=>
 (chk (ZQ ((((s0.2.2.2.2:List YLeg)++[y3.1]):List YLeg).length+([(⟨y5.to_,y6.from_,(Int.tmod (w64 (y3.1.start+(w64 (60*y7.1)))) 1440),y3.1.takes,y3.1.days,y3.1.room⟩:YLeg)]:List YLeg).length) 64)).bind fun _=>
 some (.inl ((w64 (s0.1-1)),y7.2.b,y7.2.i,y7.2.h,((((s0.2.2.2.2:List YLeg)++[y3.1]):List YLeg)++[(⟨y5.to_,y6.from_,(Int.tmod (w64 (y3.1.start+(w64 (60*y7.1)))) 1440),y3.1.takes,y3.1.days,y3.1.room⟩:YLeg)]))))
 (some (.inl ((w64 (s0.1-1)),y4.2.b,y4.2.i,y4.2.h,((s0.2.2.2.2:List YLeg)++[y3.1])))))
 (some (.inl ((w64 (s0.1-1)),y4.2.b,y4.2.i,y4.2.h,((s0.2.2.2.2:List YLeg)++[y3.1])))))
 (some (.inr (s0.2.1,s0.2.2.1,s0.2.2.2.1,s0.2.2.2.2)))
instance (most:Int) (y1:Int × ZA):ZP (Zd6 most y1):=⟨fun s0=>(.be 0 0 0::vi most::.un::.un::.be 1 0 0::.be 2 0 0::vi s0.1::(U 74 [])),fun s0=>[some ⟨187,3,[[.sl (s0.2.1.map cB8),vi s0.2.2.1,vi s0.2.2.2.1]]⟩,some ⟨35,3,[[.v (.slice none 0 0),.v (.slice none 0 0),vi 0]]⟩,some ⟨35,3,[[.ms 3,.v (.slice none 0 0),vi (w64 (15*y1.1))]]⟩,some ⟨67,6,s0.2.2.2.2.map cLeg⟩]⟩
def Zef (c:ZA) (most:Int):Option (Za × ZA):=
 (rhoM [0]).bind fun _=>
 (Zl c 9).bind fun y1=>
 (rhoM [0]).bind fun _=>
 (Zl y1.2 most).bind fun y2=>
 (Zj (Zd6 most y1) NN ((w64 (1+y2.1)),y2.2.b,y2.2.i,y2.2.h,[])).bind (fun o0=>
 (rhoM [0]).bind fun _=>
 (ZU (⟨o0.1,o0.2.1,o0.2.2.1⟩:ZA) 2).bind fun y8=>
 cond y8.1
 ((rhoM [0]).bind fun _=>
 (Zl y8.2 3).bind fun y9=>
 (rhoM [0]).bind fun _=>
 (Zl y9.2 4).bind fun y10=>
 some ((⟨o0.2.2.2,[y9.1,(w64 (3+y10.1))],(w64 (15*y1.1))⟩:Za),y10.2))
 (some ((⟨o0.2.2.2,[],(w64 (15*y1.1))⟩:Za),y8.2)))
instance (c:ZA) (most:Int):CT Tryz.prog (Zef c most):=⟨230,[.be 0 0 0,vi most],[some ⟨187,3,[[.sl (c.b.map cB8),vi c.i,vi c.h]]⟩],fun r=>.ag [.ms 1,.ms 2,vi r.1.change],fun r=>[some ⟨187,3,[[.sl (r.2.b.map cB8),vi r.2.i,vi r.2.h]]⟩,some ⟨67,6,r.1.legs.map cLeg⟩,some ⟨3,1,r.1.off.map cInt⟩],fun H=>by replace H:=H0 H; unfold Zef at H; exact Zh Tryz.func230 rfl Tryz.ntmps230 Tryz.results230 fun Q hQ hQn=>wk3⟩
def ZfH (code:List YB8) (s0:Int × Int):Option ((Int × Int) ⊕ Int):=
 cond (decide (s0.2<(code.length:Int)))
 (cond (decide (s0.2<4000))
 ((getI code s0.2).bind fun y1=>
 some (.inl ((IntKind.i64.wrap (BitVec.ofInt IntKind.i64.bits (w64 ((w64 ((w64 (s0.1*167))+(IntKind.i64.wrap y1.v)))+29)) &&& BitVec.ofInt IntKind.i64.bits 1073741823).toNat),(w64 (s0.2+1)))))
 (some (.inr s0.1)))
 (some (.inr s0.1))
instance (code:List YB8):ZP (ZfH code):=⟨fun s0=>(.sl (code.map cB8)::.un::.un::vi s0.1::vi s0.2::(U 28 [])),fun s0=>[]⟩
def Ze8 (code:List YB8):Option ZA:=
 (Zj (ZfH code) NN ((w64 (744201+(w64 (3*(code.length:Int))))),0)).bind (fun o0=>
 some (⟨code,0,o0⟩:ZA))
instance (code:List YB8):CT Tryz.prog (Ze8 code):=⟨102,[.sl (code.map cB8)],[],fun r=>.be 0 0 0,fun r=>[some ⟨187,3,[[.sl (r.b.map cB8),vi r.i,vi r.h]]⟩],fun H=>by replace H:=H0 H; unfold Ze8 at H; exact Zh Tryz.func102 rfl Tryz.ntmps102 Tryz.results102 fun Q hQ hQn=>wk3⟩
def Tot {α:Type} (x:Option α) (P:α→Prop):Prop:=∃ r,x=some r∧P r
theorem Tot.bind {α β:Type} {x:Option α} {P:α→Prop} {f:α→Option β} {Q:β→Prop} (h:Tot x P) (k:∀ r,P r→Tot (f r) Q):Tot (x.bind f) Q:=by
 obtain ⟨r,rfl,hr⟩:=h
 exact k r hr
theorem Tot.cond {β:Type} {b:Bool} {x y:Option β} {Q:β→Prop} (h:b=true→Tot x Q) (k:b=false→Tot y Q):Tot (cond b x y) Q:=by
 cases b with
 | true=>exact h rfl
 | false=>exact k rfl
theorem Tot.ret {β:Type} {r:β} {Q:β→Prop} (h:Q r):Tot (some r) Q:=⟨r,rfl,h⟩
theorem Tot.of {β:Type} {x:Option β} {r:β} {Q:β→Prop} (h:x=some r) (h':Q r):Tot x Q:=⟨r,h,h'⟩
theorem Tot.mono {β:Type} {x:Option β} {P Q:β→Prop} (h:Tot x P) (k:∀ r,P r→Q r):Tot x Q:=by
 obtain ⟨r,e,hr⟩:=h
 exact ⟨r,e,k r hr⟩
theorem Tot.rho {β:Type} {ρ:List Nat} {f:Unit→Option β} {Q:β→Prop} (k:Tot (f ()) Q):Tot ((rhoM ρ).bind f) Q:=k
theorem Tot.drw {β:Type} {wd:Nat} {fl:List Nat} {f:Unit→Option β} {Q:β→Prop} (k:Tot (f ()) Q):Tot ((drwL wd fl).bind f) Q:=k
theorem Tot.frz {β:Type} {t:List PV} {m:Mem} {f:Unit→Option β} {Q:β→Prop} (k:Tot (f ()) Q):Tot ((Go.Proofs.YtmcdjilbkmhfoaaGreat.frz t m).bind f) Q:=k
theorem Tot.frzL {α β:Type} {x:α} {t:α→List PV} {m:α→Mem} {f:α→Option β} {Q:β→Prop} (k:Tot (f x) Q):Tot ((Go.Proofs.YtmcdjilbkmhfoaaGreat.frzL x t m).bind f) Q:=k
theorem Tot.chk {β:Type} {b:Bool} {f:Unit→Option β} {Q:β→Prop} (h:b=true) (k:Tot (f ()) Q):Tot ((Go.Proofs.YtmcdjilbkmhfoaaGreat.chk b).bind f) Q:=by
 subst h; exact k
theorem Tot.get {α β:Type} {xs:List α} {i:Int} {f:α→Option β} {Q:β→Prop} (h0:0≤i) (h1:i<xs.length) (k:∀ x,x∈xs→getI xs i=some x→Tot (f x) Q):Tot ((getI xs i).bind f) Q:=by
 have hlt:i.toNat<xs.length:=by omega
 have e:getI xs i=some xs[i.toNat]:=by unfold getI; rw [if_pos h0]; exact List.getElem?_eq_getElem hlt
 rw [e]
 exact k _ (List.getElem_mem hlt) e
def ZiJ {σ ο:Type} (I:Nat→σ→Prop) (P:ο→Prop) (k:Nat):σ ⊕ ο→Prop
 | .inl s'=>∃ k',k'<k∧I k' s'
 | .inr o=>P o
theorem Tot.loop {σ ο:Type} {body:σ→Option (σ ⊕ ο)} (I:Nat→σ→Prop) {P:ο→Prop} (h:∀ k s,I k s→Tot (body s) (ZiJ I P k)):∀ (N k:Nat) (s:σ),I k s→k<N→Tot (Zj body N s) P
 | 0,k,s,_,hN=>by omega
 | N+1,k,s,hI,hN=>by
  obtain ⟨r,e,hr⟩:=h k s hI
  simp only [Zj,e]
  cases r with
  | inr o=>exact ⟨o,rfl,hr⟩
  | inl s'=>
   obtain ⟨k',hk,hI'⟩:=hr
   exact Tot.loop I h N k' s' hI' (by omega)
theorem Zfo {a b c:Nat} (h:a+b≤1099511627776) (hc:c≤128):ZQ (a+b) c=true:=by
 unfold ZQ
 refine decide_eq_true ⟨by omega,?_⟩
 have:(a+b)*c≤1099511627776*128:=Nat.mul_le_mul h hc
 omega
structure Zc0 (c:ZA):Prop where
 i:0≤c.i
 len:c.b.length≤4096
 b:∀ x∈c.b,0≤x.v∧x.v≤255
theorem Zvc (x:BitVec IntKind.i64.bits):0≤IntKind.i64.wrap ((x &&& BitVec.ofInt IntKind.i64.bits 255).toNat:Int)∧IntKind.i64.wrap ((x &&& BitVec.ofInt IntKind.i64.bits 255).toNat:Int)≤255:=by
 have h:(x &&& BitVec.ofInt IntKind.i64.bits 255).toNat≤255:=by
  have e:(BitVec.ofInt IntKind.i64.bits 255).toNat=255:=by decide
  have:=Nat.and_le_right (n:=x.toNat) (m:=(BitVec.ofInt IntKind.i64.bits 255).toNat)
  rw [e] at this
  rw [BitVec.toNat_and]
  exact this
 have e:=Zo (n:=((x &&& BitVec.ofInt IntKind.i64.bits 255).toNat:Int)) (by omega)
 have e':IntKind.i64.wrap ((x &&& BitVec.ofInt IntKind.i64.bits 255).toNat:Int)=((x &&& BitVec.ofInt IntKind.i64.bits 255).toNat:Int):=e
 rw [e']
 omega
theorem Zjs {c:ZA} (h:Zc0 c):Tot (ZbD c) fun r=>(0≤r.1∧r.1≤255)∧Zc0 r.2:=by
 unfold ZbD
 refine Tot.cond (fun hc=>?_) fun hc=>?_
 ·have hlt:=of_decide_eq_true hc
  have hl:=h.len
  refine Tot.get h.i hlt fun x hx _=>Tot.ret ⟨Zvc _,⟨?_,h.len,h.b⟩⟩
  show 0≤w64 (c.i+1)
  rw [Zo (by have:=h.i; omega)]
  have:=h.i
  omega
 ·exact Tot.ret ⟨Zvc _,⟨h.i,h.len,h.b⟩⟩
theorem Zaa {c:ZA} (h:Zc0 c) (n:Int):Tot (Zl c n) fun r=>(0≤r.1∧(0<n→r.1<n)∧(n≤0→r.1=0))∧Zc0 r.2:=by
 unfold Zl
 refine Tot.cond (fun hc=>?_) fun hc=>?_
 ·have:=of_decide_eq_true hc
  exact Tot.ret ⟨⟨by simp,fun _=>by simp only; omega,fun _=>rfl⟩,h⟩
 ·have h0:=of_decide_eq_false hc
  refine Tot.cond (fun hd=>?_) fun hd=>?_
  ·refine Tot.rho (Tot.bind (Zjs h) fun y hy=>Tot.chk (decide_eq_true (by omega)) (Tot.ret ⟨⟨?_,fun _=>?_,fun hn=>absurd hn h0⟩,hy.2⟩))
   ·exact Int.tmod_nonneg _ hy.1.1
   ·exact Int.tmod_lt_of_pos _ (by omega)
  ·refine Tot.rho (Tot.bind (Zjs h) fun y hy=>Tot.rho (Tot.bind (Zjs hy.2) fun z hz=>Tot.rho (Tot.bind (Zjs hz.2) fun u hu=>Tot.chk (decide_eq_true (by omega)) (Tot.ret ⟨⟨?_,fun _=>?_,fun hn=>absurd hn h0⟩,hu.2⟩))))
   ·have e1:w64 (y.1*65536)=y.1*65536:=Zo (by omega)
    have e2:w64 (z.1*256)=z.1*256:=Zo (by omega)
    have e3:w64 (y.1*65536+z.1*256)=y.1*65536+z.1*256:=Zo (by omega)
    have e4:w64 (y.1*65536+z.1*256+u.1)=y.1*65536+z.1*256+u.1:=Zo (by omega)
    simp only [e1,e2,e3,e4]
    exact Int.tmod_nonneg _ (by omega)
   ·exact Int.tmod_lt_of_pos _ (by omega)
theorem Zfg {c:ZA} (h:Zc0 c) (n:Int):Tot (ZU c n) fun r=>Zc0 r.2:=by
 unfold ZU
 exact Tot.rho (Tot.bind (Zaa h n) fun y hy=>Tot.ret hy.2)
theorem ZoY {c:ZA} (h:Zc0 c) {l:List ByteArray} (hl:0<l.length):Tot (ZcR c l) fun r=>r.1∈l∧Zc0 r.2.1:=by
 unfold ZcR
 exact Tot.rho (Tot.bind (Zaa h _) fun y hy=>Tot.get hy.1.1 (hy.1.2.1 (by omega)) fun x hx _=>Tot.ret ⟨hx,hy.2⟩)
theorem Zkm {c:ZA} (h:Zc0 c) {l:List Int} (hl:0<l.length):Tot (Zbz c l) fun r=>r.1∈l∧Zc0 r.2.1:=by
 unfold Zbz
 exact Tot.rho (Tot.bind (Zaa h _) fun y hy=>Tot.get hy.1.1 (hy.1.2.1 (by omega)) fun x hx _=>Tot.ret ⟨hx,hy.2⟩)
def Zik:List ByteArray:=[⟨#[65,77,83]⟩,⟨#[66,82,85]⟩,⟨#[67,68,71]⟩,⟨#[68,85,66]⟩,⟨#[69,68,73]⟩,⟨#[70,82,65]⟩,⟨#[71,79,84]⟩]
theorem ZkB {c:ZA} (h:Zc0 c):Tot (ZbQ c) fun r=>r.1∈Zik∧Zc0 r.2:=by
 unfold ZbQ
 exact Tot.rho (Tot.bind (ZoY h (by simp)) fun y hy=>Tot.ret ⟨hy.1,hy.2⟩)
structure LegD (l:YLeg):Prop where
 from_:l.from_∈Zik
 to_:l.to_∈Zik
 ne:¬ l.from_=l.to_
 start:0≤l.start∧l.start≤1439
 takes:1≤l.takes∧l.takes≤4320
 days:1≤l.days∧l.days≤127
 room:0≤l.room∧l.room≤1000000
theorem Zwn {c:ZA} (h:Zc0 c):Tot (ZeE c) fun r=>LegD r.1∧Zc0 r.2:=by
 unfold ZeE
 refine Tot.rho (Tot.bind (ZkB h) fun y1 h1=>Tot.rho (Tot.bind (ZkB h1.2) fun y2 h2=>Tot.rho (Tot.bind (Zaa h2.2 48) fun y3 h3=>Tot.rho (Tot.bind (Zaa h3.2 40) fun y4 h4=>Tot.rho (Tot.bind (Zaa h4.2 127) fun y5 h5=>Tot.rho (Tot.bind (Zaa h5.2 60) fun y6 h6=>?_))))))
 have b3:=h3.1.2.1 (by omega)
 have b4:=h4.1.2.1 (by omega)
 have b5:=h5.1.2.1 (by omega)
 have b6:=h6.1.2.1 (by omega)
 have hloop:Tot (Zj (Zet y3 y4 y5 y6) NN (y6.2.b,y6.2.i,y6.2.h,y1.1,y2.1)) fun o=>Zc0 ⟨o.1,o.2.1,o.2.2.1⟩∧o.2.2.2.1∈Zik∧o.2.2.2.2∈Zik∧¬ o.2.2.2.1=o.2.2.2.2:=by
  refine Tot.loop (fun k s=>Zc0 ⟨s.1,s.2.1,s.2.2.1⟩∧s.2.2.2.1∈Zik∧s.2.2.2.2∈Zik∧(k=1∨(k=0∧¬ s.2.2.2.1=s.2.2.2.2))) (fun k s hs=>?_) NN 1 _ ⟨h6.2,h1.1,h2.1,.inl rfl⟩ (by unfold NN; omega)
  obtain ⟨k1,k2,k3,k4⟩:=hs
  unfold Zet
  refine Tot.cond (fun hc=>?_) fun hc=>Tot.ret ⟨k1,k2,k3,of_decide_eq_false hc⟩
  have he:=of_decide_eq_true hc
  have hk:k=1:=by rcases k4 with k4 | ⟨_,k4⟩
                  ·exact k4
                  ·exact absurd he k4
  subst hk
  refine Tot.rho (Tot.bind (ZoY k1 (by simp)) fun y7 h7=>?_)
  have hy:y7.1∈Zik∧¬ (⟨#[68,85,66]⟩:ByteArray)=y7.1:=by
   have:=h7.1
   simp only [List.mem_cons,List.not_mem_nil,or_false] at this
   rcases this with e | e | e <;> rw [e] <;> exact ⟨by simp [Zik],by decide +kernel⟩
  have hdub:(⟨#[68,85,66]⟩:ByteArray)∈Zik:=by simp [Zik]
  refine Tot.cond (fun hd=>Tot.ret ⟨0,by omega,h7.2,hdub,hy.1,.inr ⟨rfl,hy.2⟩⟩) fun hd=>Tot.ret ⟨0,by omega,h7.2,k2,hy.1,.inr ⟨rfl,of_decide_eq_false hd⟩⟩
 refine Tot.bind hloop fun o ho=>Tot.rho (Tot.bind (Zfg ho.1 2) fun y8 h8=>?_)
 have w1:w64 (30*y3.1)=30*y3.1:=Zo (by omega)
 have w2:w64 (1+y4.1)=1+y4.1:=Zo (by omega)
 have w3:w64 (30*(1+y4.1))=30*(1+y4.1):=Zo (by omega)
 have w4:w64 (1+y5.1)=1+y5.1:=Zo (by omega)
 have w5:w64 (1000*y6.1)=1000*y6.1:=Zo (by omega)
 simp only [w1,w2,w3,w4,w5]
 have hin:∀ x:Int,x∈[1,1440,(4320:Int)]→1≤x∧x≤4320:=fun x hx=>by
  simp only [List.mem_cons,List.not_mem_nil,or_false] at hx
  omega
 refine Tot.cond (fun hd=>Tot.rho (Tot.bind (Zfg h8 9) fun y9 h9=>Tot.cond (fun he=>Tot.rho (Tot.bind (Zkm h9 (by simp)) fun y10 h10=>Tot.ret ⟨⟨ho.2.1,ho.2.2.1,ho.2.2.2,by simp only; omega,hin _ h10.1,by simp only; omega,by simp only; omega⟩,h10.2⟩)) fun he=>Tot.ret ⟨⟨ho.2.1,ho.2.2.1,ho.2.2.2,by simp only; omega,by simp only; omega,by simp only; omega,by simp only; omega⟩,h9⟩))
  fun hd=>Tot.rho (Tot.bind (Zfg h8 9) fun y9 h9=>Tot.cond (fun he=>Tot.rho (Tot.bind (Zkm h9 (by simp)) fun y10 h10=>Tot.ret ⟨⟨ho.2.1,ho.2.2.1,ho.2.2.2,by simp only; omega,hin _ h10.1,by simp only; omega,by simp only; omega⟩,h10.2⟩)) fun he=>Tot.ret ⟨⟨ho.2.1,ho.2.2.1,ho.2.2.2,by simp only; omega,by simp only; omega,by simp only; omega,by simp only; omega⟩,h9⟩)
structure NetD (n:Za):Prop where
 len:1≤n.legs.length∧n.legs.length≤14
 leg:∀ l∈n.legs,LegD l
 off:n.off=[]∨∃ a b:Int,n.off=[a,b]∧0≤a∧a<b∧b≤60
 change:0≤n.change∧n.change≤240
theorem Zwx {c:ZA} (h:Zc0 c):Tot (Zef c 7) fun r=>NetD r.1∧Zc0 r.2:=by
 unfold Zef
 refine Tot.rho (Tot.bind (Zaa h 9) fun y1 h1=>Tot.rho (Tot.bind (Zaa h1.2 7) fun y2 h2=>?_))
 have b1:=h1.1.2.1 (by omega)
 have b2:=h2.1.2.1 (by omega)
 have w1:w64 (1+y2.1)=1+y2.1:=Zo (by omega)
 have hloop:Tot (Zj (Zd6 7 y1) NN (w64 (1+y2.1),y2.2.b,y2.2.i,y2.2.h,[])) fun o=>Zc0 ⟨o.1,o.2.1,o.2.2.1⟩∧1≤o.2.2.2.length∧o.2.2.2.length≤14∧∀ l∈o.2.2.2,LegD l:=by
  refine Tot.loop (fun k s=>s.1=(k:Int)∧k≤7∧Zc0 ⟨s.2.1,s.2.2.1,s.2.2.2.1⟩∧s.2.2.2.2.length+2*k≤14∧(k=0→1≤s.2.2.2.2.length)∧∀ l∈s.2.2.2.2,LegD l) (fun k s hs=>?_) NN (1+y2.1).toNat _ ⟨by rw [w1]; omega,by omega,h2.2,by simp only [List.length_nil]; omega,fun hk=>by omega,fun l hl=>by cases hl⟩ (by unfold NN; omega)
  obtain ⟨k1,k2,k3,k4,k5,k6⟩:=hs
  unfold Zd6
  refine Tot.cond (fun hc=>?_) fun hc=>Tot.ret ⟨k3,k5 (by have:=of_decide_eq_false hc; omega),by simp only; omega,k6⟩
  have hk:=of_decide_eq_true hc
  have hw:w64 (s.1-1)=((k-1:Nat):Int):=by rw [Zo (by omega)]; omega
  refine Tot.rho (Tot.bind (Zwn k3) fun y3 h3=>Tot.chk (Zfo (by simp only [List.length_cons,List.length_nil]; omega) (by omega)) (Tot.rho (Tot.bind (Zfg h3.2 3) fun y4 h4=>?_)))
  have hall:∀ l∈s.2.2.2.2++[y3.1],LegD l:=fun l hl=>by
   rcases List.mem_append.1 hl with hl | hl
   ·exact k6 l hl
   ·obtain rfl:=List.mem_singleton.1 hl; exact h3.1
  have hlen:(s.2.2.2.2++[y3.1]).length=s.2.2.2.2.length+1:=by simp
  have one:Tot (some (Sum.inl (w64 (s.1-1),y4.2.b,y4.2.i,y4.2.h,s.2.2.2.2++[y3.1])):Option ((Int × List YB8 × Int × Int × List YLeg) ⊕ (List YB8 × Int × Int × List YLeg)))
   (ZiJ (fun k s=>s.1=(k:Int)∧k≤7∧Zc0 ⟨s.2.1,s.2.2.1,s.2.2.2.1⟩∧s.2.2.2.2.length+2*k≤14∧(k=0→1≤s.2.2.2.2.length)∧∀ l∈s.2.2.2.2,LegD l) (fun o=>Zc0 ⟨o.1,o.2.1,o.2.2.1⟩∧1≤o.2.2.2.length∧o.2.2.2.length≤14∧∀ l∈o.2.2.2,LegD l) k):=Tot.ret ⟨k-1,by omega,hw,by omega,h4,by simp only [hlen]; omega,fun _=>by simp only [hlen]; omega,hall⟩
  refine Tot.cond (fun hd=>Tot.cond (fun he=>?_) fun he=>one) fun hd=>one
  have hwl:w64 (((s.2.2.2.2++[y3.1]).length:Int)-1)=(s.2.2.2.2.length:Int):=by rw [hlen,Zo (by omega)]; omega
  have hlast:getI (s.2.2.2.2++[y3.1]) (s.2.2.2.2.length:Int)=some y3.1:=by rw [Zn,List.getElem?_append_right (Nat.le_refl _)]; simp
  rw [hwl,hlast]
  simp only [Option.bind_some]
  refine Tot.drw (Tot.rho (Tot.bind (Zaa h4 20) fun y7 h7=>Tot.chk (Zfo (by simp only [List.length_cons,List.length_nil,hlen]; omega) (by omega)) (Tot.ret ⟨k-1,by omega,hw,by omega,h7.2,?_,fun _=>?_,fun l hl=>?_⟩)))
  ·simp only [List.length_append,List.length_cons,List.length_nil]; omega
  ·simp only [List.length_append,List.length_cons,List.length_nil]; omega
  ·rcases List.mem_append.1 hl with hl | hl
   ·exact hall l hl
   ·obtain rfl:=List.mem_singleton.1 hl
    obtain ⟨a1,a2,a3,a4,a5,a6,a7⟩:=h3.1
    have b7:=h7.1.2.1 (by omega)
    have e1:w64 (60*y7.1)=60*y7.1:=Zo (by omega)
    have e2:w64 (y3.1.start+60*y7.1)=y3.1.start+60*y7.1:=Zo (by omega)
    refine ⟨a2,a1,fun e=>a3 e.symm,?_,a5,a6,a7⟩
    simp only [e1,e2]
    have g1:=Int.tmod_nonneg 1440 (show 0≤y3.1.start+60*y7.1 by omega)
    have g2:=Int.tmod_lt_of_pos (y3.1.start+60*y7.1) (show (0:Int)<1440 by omega)
    omega
 refine Tot.bind hloop fun o ho=>Tot.rho (Tot.bind (Zfg ho.1 2) fun y8 h8=>?_)
 have w2:w64 (15*y1.1)=15*y1.1:=Zo (by omega)
 simp only [w2]
 refine Tot.cond (fun hd=>Tot.rho (Tot.bind (Zaa h8 3) fun y9 h9=>Tot.rho (Tot.bind (Zaa h9.2 4) fun y10 h10=>?_))) fun hd=>Tot.ret ⟨⟨⟨ho.2.1,ho.2.2.1⟩,ho.2.2.2,.inl rfl,by simp only; omega⟩,h8⟩
 have b9:=h9.1.2.1 (by omega)
 have b10:=h10.1.2.1 (by omega)
 have w3:w64 (3+y10.1)=3+y10.1:=Zo (by omega)
 exact Tot.ret ⟨⟨⟨ho.2.1,ho.2.2.1⟩,ho.2.2.2,.inr ⟨_,_,rfl,by omega,by omega,by omega⟩,by simp only; omega⟩,h10.2⟩
theorem Zwy {code:List YB8} (hl:code.length≤4096) (hb:∀ x∈code,0≤x.v∧x.v≤255):Tot (Ze8 code) Zc0:=by
 unfold Ze8
 refine Tot.bind (P:=fun _=>True) ?_ fun o _=>Tot.ret ⟨by simp,hl,hb⟩
 refine Tot.loop (fun k s=>∃ i:Nat,s.2=(i:Int)∧i+k=code.length) (fun k s hs=>?_) NN code.length _ ⟨0,rfl,by omega⟩ (by unfold NN; omega)
 obtain ⟨i,hi,hk⟩:=hs
 unfold ZfH
 rw [hi]
 refine Tot.cond (fun hc=>Tot.cond (fun hd=>?_) fun hd=>Tot.ret trivial) fun hc=>Tot.ret trivial
 have hlt:=of_decide_eq_true hc
 exact Tot.get (by omega) hlt fun x hx _=>Tot.ret ⟨k-1,by omega,i+1,by simp only; rw [Zo (by omega)]; omega,by omega⟩
def Zak (s:ByteArray) (s0:Int):Option (Int ⊕ (Unit ⊕ Bool)):=
 cond (decide (s0<(s.size:Int)))
 ((getB s s0).bind fun y1=>
 cond (decide (y1<65))
 (some (.inr (.inr false)))
 ((getB s s0).bind fun y2=>
 cond (decide (90<y2))
 (some (.inr (.inr false)))
 (some (.inl (w64 (s0+1))))))
 (some (.inr (.inl ())))
instance (s:ByteArray):ZP (Zak s):=⟨fun s0=>(vs s::.un::.un::vi s0::(U 19 [])),fun s0=>[]⟩
def ZcH (s:ByteArray):Option Bool:=
 (Zj (Zak s) NN 0).bind (ZY (fun o0=>
 some (decide ((s.size:Int)=3))) (fun r=>some r))
instance (s:ByteArray):CT Tryz.prog (ZcH s):=⟨251,[vs s],[],fun r=>vb r,fun r=>[],fun H=>by replace H:=H0 H; unfold ZcH at H; exact Zh Tryz.func251 rfl Tryz.ntmps251 Tryz.results251 fun Q hQ hQn=>wk3⟩
def ZJ (x:Int) (least:Int) (most:Int):Option Bool:=
 cond (decide (least≤x))
 (some (decide (x≤most)))
 (some false)
instance (x:Int) (least:Int) (most:Int):CT Tryz.prog (ZJ x least most):=⟨71,[vi x,vi least,vi most],[],fun r=>vb r,fun r=>[],fun H=>by replace H:=H0 H; unfold ZJ at H; exact Zh Tryz.func71 rfl Tryz.ntmps71 Tryz.results71 fun Q hQ hQn=>wk3⟩
def ZeP (s:ByteArray) (s0:Int):Option (Int ⊕ (Unit ⊕ Bool)):=
 cond (decide (s0<3))
 ((getB s s0).bind fun y1=>
 (ZJ (IntKind.i64.wrap y1) 65 90).bind fun y2=>
 cond (!y2)
 (some (.inr (.inr false)))
 (some (.inl (w64 (s0+1)))))
 (some (.inr (.inl ())))
instance (s:ByteArray):ZP (ZeP s):=⟨fun s0=>(vs s::.un::.un::vi s0::(U 13 [])),fun s0=>[]⟩
def Zbc (s:ByteArray):Option Bool:=
 cond (!decide ((s.size:Int)=3))
 (some false)
 ((Zj (ZeP s) NN 0).bind (ZY (fun o0=>
 some true) (fun r=>some r)))
instance (s:ByteArray):CT Tryz.prog (Zbc s):=⟨257,[vs s],[],fun r=>vb r,fun r=>[],fun H=>by replace H:=H0 H; unfold Zbc at H; exact Zh Tryz.func257 rfl Tryz.ntmps257 Tryz.results257 fun Q hQ hQn=>wk3⟩
def Zx (n:Int) (low:Int) (high:Int):Option Bool:=
 cond (decide (low≤n))
 (some (decide (n≤high)))
 (some false)
instance (n:Int) (low:Int) (high:Int):CT Tryz.prog (Zx n low high):=⟨81,[vi n,vi low,vi high],[],fun r=>vb r,fun r=>[],fun H=>by replace H:=H0 H; unfold Zx at H; exact Zh Tryz.func81 rfl Tryz.ntmps81 Tryz.results81 fun Q hQ hQn=>wk3⟩
theorem Zu7 (n l h:Int):Zx n l h=some (decide (l≤n) && decide (n≤h)):=by
 unfold Zx; cases decide (l≤n) <;> rfl
theorem ZbH (n l h:Int):ZJ n l h=some (decide (l≤n) && decide (n≤h)):=by
 unfold ZJ; cases decide (l≤n) <;> rfl
theorem Zej:@Zx=@ZJ:=by funext n l h; rw [Zu7,ZbH]
theorem Zwg {s:ByteArray} {i c:Int} (h:getB s i=some c):0≤c∧c≤255:=by
 unfold getB at h
 split at h
 ·cases h
  unfold ZmG
  cases hb:s[i.toNat]? with
  | none=>simp
  | some b=>
   have:=b.toNat_lt
   simp only [Option.map_some,Option.getD_some]
   omega
 ·cases h
theorem ZsB {s:ByteArray} (hs:s.size=3):Zak s=ZeP s:=by
 funext i
 unfold Zak ZeP
 rw [hs]
 cases hi:decide (i<3) with
 | false=>simp [hi]
 | true=>
  simp only [show ((3:Nat):Int)=3 from rfl,hi,cond_true]
  cases hg:getB s i with
  | none=>rfl
  | some y=>
   obtain ⟨h0,h1⟩:=Zwg hg
   simp only [Option.bind_some,hg]
   rw [show IntKind.i64.wrap y=y from Zo (by omega),ZbH]
   simp only [Option.bind_some]
   by_cases h2:y<65
   ·simp [h2,show ¬ (65≤y) by omega]
   ·by_cases h3:90<y
    ·simp [h2,h3,show ¬ (y≤90) by omega]
    ·simp [h2,h3,show 65≤y by omega,show y≤90 by omega]
theorem ZrX {s:ByteArray} {i:Nat} (h:i<s.size):∃ c,getB s (i:Int)=some c:=by
 unfold getB; exact ⟨_,if_pos ⟨by omega,by omega⟩⟩
theorem ZoG {s:ByteArray} (hs:s.size≤1152921504606846000):∀ (k i N:Nat),i+k=s.size→k<N→∃ o,Zj (Zak s) N (i:Int)=some o∧(o=.inl ()∨o=.inr false):=by
 intro k
 induction k with
 | zero=>
  intro i N hi hk
  cases N with
  | zero=>omega
  | succ N=>exact ⟨.inl (),by simp [Zj,Zak,show ¬ ((i:Int)<s.size) by omega],.inl rfl⟩
 | succ k ih=>
  intro i N hi hk
  cases N with
  | zero=>omega
  | succ N=>
   obtain ⟨c,hc⟩:=ZrX (s:=s) (i:=i) (by omega)
   have hw:=ZR (i:=i) (n:=s.size) (by omega) (by omega)
   by_cases h2:c<65
   ·exact ⟨.inr false,by simp [Zj,Zak,show (i:Int)<s.size by omega,hc,h2],.inr rfl⟩
   ·by_cases h3:90<c
    ·exact ⟨.inr false,by simp [Zj,Zak,show (i:Int)<s.size by omega,hc,h2,h3],.inr rfl⟩
    ·obtain ⟨o,ho,hoo⟩:=ih (i+1) N (by omega) (by omega)
     refine ⟨o,?_,hoo⟩
     simp only [Zj,Zak,decide_eq_true (show (i:Int)<s.size by omega),cond_true,hc,Option.bind_some,decide_eq_false h2,decide_eq_false h3,cond_false,hw]
     exact ho
theorem ZhE {s:ByteArray} (hs:s.size≤1152921504606846000):ZcH s=Zbc s∧∃ b,Zbc s=some b:=by
 obtain ⟨o,ho,hoo⟩:=ZoG hs s.size 0 NN (by omega) (by unfold NN; omega)
 have ho':Zj (Zak s) NN 0=some o:=ho
 by_cases h3:s.size=3
 ·have e:Zbc s=(Zj (Zak s) NN 0).bind (ZY (fun _=>some true) (fun r=>some r)):=by
   unfold Zbc; rw [ZsB h3,h3]; rfl
  have e2:ZcH s=(Zj (Zak s) NN 0).bind (ZY (fun _=>some (decide ((s.size:Int)=3))) (fun r=>some r)):=rfl
  rw [e,e2,ho',h3]
  rcases hoo with rfl | rfl
  ·exact ⟨rfl,_,rfl⟩
  ·exact ⟨rfl,_,rfl⟩
 ·have e:Zbc s=some false:=by unfold Zbc; rw [decide_eq_false (by omega)]; rfl
  have e2:ZcH s=some false:=by
   unfold ZcH; rw [ho']
   rcases hoo with rfl | rfl
   ·show some _=some _; rw [decide_eq_false (by omega)]
   ·rfl
  exact ⟨by rw [e,e2],_,e⟩
def B60:Nat:=1152921504606846000
def ZfT (l:YLeg):Option Bool:=
 (ZcH l.from_).bind fun y1=>
 cond y1
 ((ZcH l.to_).bind fun y2=>
 cond y2
 (cond (!decide (l.from_=l.to_))
 ((Zx l.start 0 1439).bind fun y3=>
 cond y3
 ((Zx l.takes 1 4320).bind fun y4=>
 cond y4
 ((Zx l.days 1 127).bind fun y5=>
 cond y5
 ((Zx l.room 0 1000000).bind fun y6=>
 some y6)
 (some false))
 (some false))
 (some false))
 (some false))
 (some false))
 (some false)
instance (l:YLeg):CT Tryz.prog (ZfT l):=⟨215,[.ag (cLeg l)],[],fun r=>vb r,fun r=>[],fun H=>by replace H:=H0 H; unfold ZfT at H; exact Zh Tryz.func215 rfl Tryz.ntmps215 Tryz.results215 fun Q hQ hQn=>wk3⟩
def Zd1 (n:Za) (s0:Int):Option (Int ⊕ (Unit ⊕ Bool)):=
 cond (decide (s0<(n.legs.length:Int)))
 ((getI n.legs s0).bind fun y1=>
 (ZfT y1).bind fun y2=>
 cond (!y2)
 (some (.inr (.inr false)))
 (some (.inl (w64 (s0+1)))))
 (some (.inr (.inl ())))
instance (n:Za):ZP (Zd1 n):=⟨fun s0=>(.un::.be 0 0 0::(U 6 (.sl (n.legs.map cLeg)::vi (n.legs.length:Int)::vi s0::(U 48 [])))),fun s0=>[some ⟨35,3,[[.sl (n.legs.map cLeg),.sl (n.off.map cInt),vi n.change]]⟩]⟩
def Zd2 (n:Za) (s1:Int):Option (Int ⊕ (Unit ⊕ Bool)):=
 cond (decide (s1<(n.off.length:Int)))
 ((getI n.off s1).bind fun y3=>
 (Zx y3 0 60).bind fun y4=>
 cond (!y4)
 (some (.inr (.inr false)))
 (cond (decide (0<s1))
 ((getI n.off (w64 (s1-1))).bind fun y5=>
 cond (decide (y3≤y5))
 (some (.inr (.inr false)))
 (some (.inl (w64 (s1+1)))))
 (some (.inl (w64 (s1+1))))))
 (some (.inr (.inl ())))
instance (n:Za):ZP (Zd2 n):=⟨fun s1=>(.un::.be 0 0 0::(U 17 (.sl (n.off.map cInt)::vi (n.off.length:Int)::vi s1::(U 37 [])))),fun s1=>[some ⟨35,3,[[.sl (n.legs.map cLeg),.sl (n.off.map cInt),vi n.change]]⟩]⟩
def Z8 (n:Za):Option Bool:=
 (Zj (Zd1 n) NN 0).bind (ZY (fun o0=>
 (Zj (Zd2 n) NN 0).bind (ZY (fun o1=>
 cond (decide ((n.legs.length:Int)≤20))
 (cond (decide ((n.off.length:Int)≤10))
 ((Zx n.change 0 240).bind fun y6=>
 some y6)
 (some false))
 (some false)) (fun r=>some r))) (fun r=>some r))
instance (n:Za):CT Tryz.prog (Z8 n):=⟨150,[.ag (Zr n)],[],fun r=>vb r,fun r=>[],fun H=>by replace H:=H0 H; unfold Z8 at H; exact Zh Tryz.func150 rfl Tryz.ntmps150 Tryz.results150 fun Q hQ hQn=>wk3⟩
def Za3 (l:YLeg):Option Bool:=
 (Zbc l.from_).bind fun y1=>
 cond y1
 ((Zbc l.to_).bind fun y2=>
 cond y2
 (cond (!decide (l.from_=l.to_))
 ((ZJ l.start 0 1439).bind fun y3=>
 cond y3
 ((ZJ l.takes 1 4320).bind fun y4=>
 cond y4
 ((ZJ l.days 1 127).bind fun y5=>
 cond y5
 ((ZJ l.room 0 1000000).bind fun y6=>
 some y6)
 (some false))
 (some false))
 (some false))
 (some false))
 (some false))
 (some false)
instance (l:YLeg):CT Tryz.prog (Za3 l):=⟨232,[.ag (cLeg l)],[],fun r=>vb r,fun r=>[],fun H=>by replace H:=H0 H; unfold Za3 at H; exact Zh Tryz.func232 rfl Tryz.ntmps232 Tryz.results232 fun Q hQ hQn=>wk3⟩
def ZD (n:Za) (s0:Int):Option (Int ⊕ (Unit ⊕ Bool)):=
 cond (decide (s0<(n.legs.length:Int)))
 ((getI n.legs s0).bind fun y1=>
 (Za3 y1).bind fun y2=>
 cond (!y2)
 (some (.inr (.inr false)))
 (some (.inl (w64 (s0+1)))))
 (some (.inr (.inl ())))
instance (n:Za):ZP (ZD n):=⟨fun s0=>(.un::.be 0 0 0::.un::vi s0::(U 62 [])),fun s0=>[some ⟨35,3,[[.sl (n.legs.map cLeg),.sl (n.off.map cInt),vi n.change]]⟩]⟩
def ZE (n:Za) (s1:Int):Option (Int ⊕ (Unit ⊕ Bool)):=
 cond (decide (s1<(n.off.length:Int)))
 ((getI n.off s1).bind fun y3=>
 (ZJ y3 0 60).bind fun y4=>
 cond (!y4)
 (some (.inr (.inr false)))
 (cond (decide (0<s1))
 ((getI n.off (w64 (s1-1))).bind fun y5=>
 (getI n.off s1).bind fun y6=>
 cond (decide (y6≤y5))
 (some (.inr (.inr false)))
 (some (.inl (w64 (s1+1)))))
 (some (.inl (w64 (s1+1))))))
 (some (.inr (.inl ())))
instance (n:Za):ZP (ZE n):=⟨fun s1=>(.un::.be 0 0 0::.un::.un::vi s1::(U 61 [])),fun s1=>[some ⟨35,3,[[.sl (n.legs.map cLeg),.sl (n.off.map cInt),vi n.change]]⟩]⟩
def Zi (n:Za):Option Bool:=
 (Zj (ZD n) NN 0).bind (ZY (fun o0=>
 (Zj (ZE n) NN 0).bind (ZY (fun o1=>
 cond (decide ((n.legs.length:Int)≤20))
 (cond (decide ((n.off.length:Int)≤10))
 ((ZJ n.change 0 240).bind fun y7=>
 some y7)
 (some false))
 (some false)) (fun r=>some r))) (fun r=>some r))
instance (n:Za):CT Tryz.prog (Zi n):=⟨181,[.ag (Zr n)],[],fun r=>vb r,fun r=>[],fun H=>by replace H:=H0 H; unfold Zi at H; exact Zh Tryz.func181 rfl Tryz.ntmps181 Tryz.results181 fun Q hQ hQn=>wk3⟩
def ZH (n:Za) (t:Ze):Option Int:=
 (getI n.legs t.leg).bind fun y1=>
 some (w64 ((w64 (t.day*1440))+y1.start))
instance (n:Za) (t:Ze):CT Tryz.prog (ZH n t):=⟨125,[.ag (Zr n),.ag (Zs t)],[],fun r=>vi r,fun r=>[],fun H=>by replace H:=H0 H; unfold ZH at H; exact Zh Tryz.func125 rfl Tryz.ntmps125 Tryz.results125 fun Q hQ hQn=>wk3⟩
def ZO (n:Za) (t:Ze):Option Int:=
 (ZH n t).bind fun y1=>
 (getI n.legs t.leg).bind fun y2=>
 some (w64 (y1+y2.takes))
instance (n:Za) (t:Ze):CT Tryz.prog (ZO n t):=⟨121,[.ag (Zr n),.ag (Zs t)],[],fun r=>vi r,fun r=>[],fun H=>by replace H:=H0 H; unfold ZO at H; exact Zh Tryz.func121 rfl Tryz.ntmps121 Tryz.results121 fun Q hQ hQn=>wk3⟩
def Zp (n:Za) (t:Ze):Option Int:=
 (getI n.legs t.leg).bind fun y1=>
 some (w64 ((w64 (t.day*1440))+y1.start))
instance (n:Za) (t:Ze):CT Tryz.prog (Zp n t):=⟨119,[.ag (Zr n),.ag (Zs t)],[],fun r=>vi r,fun r=>[],fun H=>by replace H:=H0 H; unfold Zp at H; exact Zh Tryz.func119 rfl Tryz.ntmps119 Tryz.results119 fun Q hQ hQn=>wk3⟩
def Zq (n:Za) (t:Ze):Option Int:=
 (Zp n t).bind fun y1=>
 (getI n.legs t.leg).bind fun y2=>
 some (w64 (y1+y2.takes))
instance (n:Za) (t:Ze):CT Tryz.prog (Zq n t):=⟨164,[.ag (Zr n),.ag (Zs t)],[],fun r=>vi r,fun r=>[],fun H=>by replace H:=H0 H; unfold Zq at H; exact Zh Tryz.func164 rfl Tryz.ntmps164 Tryz.results164 fun Q hQ hQn=>wk3⟩
theorem Zei:@ZH=@Zp:=rfl
theorem ZfG:@ZO=@Zq:=rfl
def Zna (l:YLeg):Prop:=l.from_.size≤B60∧l.to_.size≤B60
theorem Zjx {l:YLeg} (h:Zna l):ZfT l=Za3 l∧∃ b,Za3 l=some b:=by
 obtain ⟨e1,b1,s1⟩:=ZhE (s:=l.from_) h.1
 obtain ⟨e2,b2,s2⟩:=ZhE (s:=l.to_) h.2
 constructor
 ·unfold ZfT Za3; rw [e1,e2,Zej]
 ·unfold Za3
  rw [s1,s2]
  simp only [Option.bind_some,ZbH]
  cases b1 <;> cases b2 <;> cases (decide (l.from_=l.to_)) <;> cases (decide (0≤l.start) && decide (l.start≤1439)) <;> cases (decide (1≤l.takes) && decide (l.takes≤4320)) <;> cases (decide (1≤l.days) && decide (l.days≤127)) <;> exact ⟨_,rfl⟩
structure Z0 (n:Za):Prop where
 legs:n.legs.length≤1048576
 off:n.off.length≤1048576
 leg:∀ l∈n.legs,Zna l
theorem ZgX {α:Type} {xs:List α} {i:Int} {x:α} (h:getI xs i=some x):x∈xs:=List.mem_of_getElem? (Zdb h).2
theorem Zuv {n:Za} (h:Z0 n):Zd1 n=ZD n:=by
 funext i
 unfold Zd1 ZD
 cases hg:getI n.legs i with
 | none=>rfl
 | some y=>simp only [Option.bind_some,(Zjx (h.leg y (ZgX hg))).1]
theorem Zuw {n:Za}:Zd2 n=ZE n:=by
 funext i
 unfold Zd2 ZE
 rw [Zej]
 cases hg:getI n.off i with
 | none=>rfl
 | some y=>simp only [Option.bind_some]
theorem Zzg {n:Za} (h:Z0 n):∃ o,Zj (ZD n) NN 0=some o:=by
 refine Zpx (n:=n.legs.length) (by have:=h.legs; unfold NN; omega) (fun i hi=>?_) ⟨_,by simp [ZD]; rfl⟩
 have hw:=ZR hi (by have:=h.legs; omega)
 have hg:getI n.legs (i:Int)=some n.legs[i]:=by rw [Zn]; exact List.getElem?_eq_getElem hi
 obtain ⟨b,hb⟩:=(Zjx (h.leg _ (List.getElem_mem hi))).2
 cases b with
 | true=>exact Zxm (by simp only [ZD,decide_eq_true (show (i:Int)<n.legs.length by omega),cond_true,hg,Option.bind_some,hb,hw,Bool.not_true,cond_false])
 | false=>exact Ztr (by simp only [ZD,decide_eq_true (show (i:Int)<n.legs.length by omega),cond_true,hg,Option.bind_some,hb,Bool.not_false,cond_true]; rfl)
theorem Zzh {n:Za} (h:Z0 n):∃ o,Zj (ZE n) NN 0=some o:=by
 refine Zpx (n:=n.off.length) (by have:=h.off; unfold NN; omega) (fun i hi=>?_) ⟨_,by simp [ZE]; rfl⟩
 have hw:=ZR hi (by have:=h.off; omega)
 have hg:getI n.off (i:Int)=some n.off[i]:=by rw [Zn]; exact List.getElem?_eq_getElem hi
 have hd:=decide_eq_true (show (i:Int)<n.off.length by omega)
 cases hb:decide (0≤n.off[i]) && decide (n.off[i]≤60) with
 | false=>exact Ztr (by simp only [ZE,hd,cond_true,hg,Option.bind_some,ZbH,hb,Bool.not_false]; rfl)
 | true=>
  by_cases h0:0<(i:Int)
  ·have hw2:w64 ((i:Int)-1)=((i-1:Nat):Int):=by rw [Zo (by have:=h.off; omega)]; omega
   have hg2:getI n.off ((i-1:Nat):Int)=some n.off[i-1]:=by rw [Zn]; exact List.getElem?_eq_getElem (by omega)
   cases hc:decide (n.off[i]≤n.off[i-1]) with
   | true=>exact Ztr (by simp only [ZE,hd,cond_true,hg,Option.bind_some,ZbH,hb,Bool.not_true,cond_false,decide_eq_true h0,hw2,hg2,hc]; rfl)
   | false=>exact Zxm (by simp only [ZE,hd,cond_true,hg,Option.bind_some,ZbH,hb,Bool.not_true,cond_false,decide_eq_true h0,hw2,hg2,hc,hw])
  ·exact Zxm (by simp only [ZE,hd,cond_true,hg,Option.bind_some,ZbH,hb,Bool.not_true,cond_false,decide_eq_false h0,hw])
theorem Zb2 {n:Za} (h:Z0 n):Z8 n=Zi n∧∃ b,Zi n=some b:=by
 constructor
 ·unfold Z8 Zi; rw [Zuv h,Zuw,Zej]
 ·obtain ⟨o0,h0⟩:=Zzg h
  obtain ⟨o1,h1⟩:=Zzh h
  unfold Zi
  rw [h0,h1]
  simp only [Option.bind_some,ZbH]
  rcases o0 with o0 | o0
  ·rcases o1 with o1 | o1
   ·simp only [ZY]
    cases decide ((n.legs.length:Int)≤20) <;> cases decide ((n.off.length:Int)≤10) <;> exact ⟨_,rfl⟩
   ·exact ⟨_,rfl⟩
  ·exact ⟨_,rfl⟩
def Ze7 (n:Za) (day:Int) (s0:Int):Option (Int ⊕ (Unit ⊕ Bool)):=
 cond (decide (s0<(n.off.length:Int)))
 ((getI n.off s0).bind fun y3=>
 cond (decide (y3=day))
 (some (.inr (.inr false)))
 (some (.inl (w64 (s0+1)))))
 (some (.inr (.inl ())))
instance (n:Za) (day:Int):ZP (Ze7 n day):=⟨fun s0=>(.un::.un::vi day::(U 34 (.sl (n.off.map cInt)::vi (n.off.length:Int)::vi s0::(U 7 [])))),fun s0=>[]⟩
def Zd4 (n:Za) (leg:Int) (day:Int):Option Bool:=
 cond (decide (leg<0))
 (some false)
 (cond (decide ((n.legs.length:Int)≤leg))
 (some false)
 ((Zx day 0 60).bind fun y1=>
 cond (!y1)
 (some false)
 ((getI n.legs leg).bind fun y2=>
 (chk (decide (0≤(Int.tmod day 7)))).bind fun _=>
 cond (decide ((IntKind.i64.wrap (BitVec.ofInt IntKind.i64.bits (Int.fdiv y2.days (2 ^ (min (Int.toNat (Int.tmod day 7)) IntKind.i64.bits))) &&& BitVec.ofInt IntKind.i64.bits 1).toNat)=0))
 (some false)
 ((Zj (Ze7 n day) NN 0).bind (ZY (fun o0=>
 some true) (fun r=>some r))))))
instance (n:Za) (leg:Int) (day:Int):CT Tryz.prog (Zd4 n leg day):=⟨157,[.ag (Zr n),vi leg,vi day],[],fun r=>vb r,fun r=>[],fun H=>by replace H:=H0 H; unfold Zd4 at H; exact Zh Tryz.func157 rfl Tryz.ntmps157 Tryz.results157 fun Q hQ hQn=>wk3⟩
def Zfw (n:Za) (leg:Int) (day:Int):Option Bool:=
 (Z8 n).bind fun y1=>
 cond y1
 ((Zd4 n leg day).bind fun y2=>
 some y2)
 (some false)
instance (n:Za) (leg:Int) (day:Int):CT Tryz.prog (Zfw n leg day):=⟨193,[.ag (Zr n),vi leg,vi day],[],fun r=>vb r,fun r=>[],fun H=>by replace H:=H0 H; unfold Zfw at H; exact Zh Tryz.func193 rfl Tryz.ntmps193 Tryz.results193 fun Q hQ hQn=>wk3⟩
def Zad (n:Za) (t:Ze):Option Bool:=
 (Zfw n t.leg t.day).bind fun y1=>
 some y1
instance (n:Za) (t:Ze):CT Tryz.prog (Zad n t):=⟨124,[.ag (Zr n),.ag (Zs t)],[],fun r=>vb r,fun r=>[],fun H=>by replace H:=H0 H; unfold Zad at H; exact Zh Tryz.func124 rfl Tryz.ntmps124 Tryz.results124 fun Q hQ hQn=>wk3⟩
def ZfB (l:List Int) (x:Int) (s0:Int):Option (Int ⊕ (Unit ⊕ Bool)):=
 cond (decide (s0<(l.length:Int)))
 ((getI l s0).bind fun y1=>
 cond (decide (y1=x))
 (some (.inr (.inr true)))
 (some (.inl (w64 (s0+1)))))
 (some (.inr (.inl ())))
instance (l:List Int) (x:Int):ZP (ZfB l x):=⟨fun s0=>(.sl (l.map cInt)::vi x::(U 3 (vi s0::(U 12 [])))),fun s0=>[]⟩
def ZdX (l:List Int) (x:Int):Option Bool:=
 (Zj (ZfB l x) NN 0).bind (ZY (fun o0=>
 some false) (fun r=>some r))
instance (l:List Int) (x:Int):CT Tryz.prog (ZdX l x):=⟨184,[.sl (l.map cInt),vi x],[],fun r=>vb r,fun r=>[],fun H=>by replace H:=H0 H; unfold ZdX at H; exact Zh Tryz.func184 rfl Tryz.ntmps184 Tryz.results184 fun Q hQ hQn=>wk3⟩
def ZX (n:Za) (leg:Int) (day:Int):Option Bool:=
 (ZJ leg 0 (w64 ((n.legs.length:Int)-1))).bind fun y1=>
 cond y1
 ((ZJ day 0 60).bind fun y2=>
 cond y2
 ((getI n.legs leg).bind fun y3=>
 (chk (decide (0≤(Int.tmod day 7)))).bind fun _=>
 cond (decide ((IntKind.i64.wrap (BitVec.ofInt IntKind.i64.bits (Int.fdiv y3.days (2 ^ (min (Int.toNat (Int.tmod day 7)) IntKind.i64.bits))) &&& BitVec.ofInt IntKind.i64.bits 1).toNat)=1))
 ((ZdX n.off day).bind fun y4=>
 some (!y4))
 (some false))
 (some false))
 (some false)
instance (n:Za) (leg:Int) (day:Int):CT Tryz.prog (ZX n leg day):=⟨108,[.ag (Zr n),vi leg,vi day],[],fun r=>vb r,fun r=>[],fun H=>by replace H:=H0 H; unfold ZX at H; exact Zh Tryz.func108 rfl Tryz.ntmps108 Tryz.results108 fun Q hQ hQn=>wk3⟩
def Zdh (n:Za) (leg:Int) (day:Int):Option Bool:=
 (Zi n).bind fun y1=>
 cond y1
 ((ZX n leg day).bind fun y2=>
 some y2)
 (some false)
instance (n:Za) (leg:Int) (day:Int):CT Tryz.prog (Zdh n leg day):=⟨118,[.ag (Zr n),vi leg,vi day],[],fun r=>vb r,fun r=>[],fun H=>by replace H:=H0 H; unfold Zdh at H; exact Zh Tryz.func118 rfl Tryz.ntmps118 Tryz.results118 fun Q hQ hQn=>wk3⟩
def Zan (n:Za) (t:Ze):Option Bool:=
 (Zdh n t.leg t.day).bind fun y1=>
 some y1
instance (n:Za) (t:Ze):CT Tryz.prog (Zan n t):=⟨31,[.ag (Zr n),.ag (Zs t)],[],fun r=>vb r,fun r=>[],fun H=>by replace H:=H0 H; unfold Zan at H; exact Zh Tryz.func31 rfl Tryz.ntmps31 Tryz.results31 fun Q hQ hQn=>wk3⟩
def ZeO (l:List Ze) (t:Ze) (s0:Int):Option (Int ⊕ (Unit ⊕ Bool)):=
 cond (decide (s0<(l.length:Int)))
 ((getI l s0).bind fun y1=>
 cond (decide (y1=t))
 (some (.inr (.inr true)))
 (some (.inl (w64 (s0+1)))))
 (some (.inr (.inl ())))
instance (l:List Ze) (t:Ze):ZP (ZeO l t):=⟨fun s0=>(U 3 (.be 0 0 0::(U 3 (.sl (l.map Zs)::vi (l.length:Int)::vi s0::(U 7 []))))),fun s0=>[some ⟨55,2,[[vi t.leg,vi t.day]]⟩]⟩
def ZaQ (l:List Ze) (t:Ze):Option Bool:=
 (Zj (ZeO l t) NN 0).bind (ZY (fun o0=>
 some false) (fun r=>some r))
instance (l:List Ze) (t:Ze):CT Tryz.prog (ZaQ l t):=⟨126,[.sl (l.map Zs),.ag (Zs t)],[],fun r=>vb r,fun r=>[],fun H=>by replace H:=H0 H; unfold ZaQ at H; exact Zh Tryz.func126 rfl Tryz.ntmps126 Tryz.results126 fun Q hQ hQn=>wk3⟩
def Zgt (l:List Ze) (t:Ze) (s0:Int):Option (Int ⊕ (Unit ⊕ Bool)):=
 cond (decide (s0<(l.length:Int)))
 ((getI l s0).bind fun y1=>
 cond (decide (y1=t))
 (some (.inr (.inr true)))
 (some (.inl (w64 (s0+1)))))
 (some (.inr (.inl ())))
instance (l:List Ze) (t:Ze):ZP (Zgt l t):=⟨fun s0=>(.sl (l.map Zs)::.un::.un::.be 0 0 0::.un::vi s0::(U 12 [])),fun s0=>[some ⟨55,2,[[vi t.leg,vi t.day]]⟩]⟩
def Zaq (l:List Ze) (t:Ze):Option Bool:=
 (Zj (Zgt l t) NN 0).bind (ZY (fun o0=>
 some false) (fun r=>some r))
instance (l:List Ze) (t:Ze):CT Tryz.prog (Zaq l t):=⟨109,[.sl (l.map Zs),.ag (Zs t)],[],fun r=>vb r,fun r=>[],fun H=>by replace H:=H0 H; unfold Zaq at H; exact Zh Tryz.func109 rfl Tryz.ntmps109 Tryz.results109 fun Q hQ hQn=>wk3⟩
def Zfd (l:List Zc) (t:Ze) (s0:Int × Int):Option ((Int × Int) ⊕ Int):=
 cond (decide (s0.2<(l.length:Int)))
 ((getI l s0.2).bind fun y1=>
 cond (decide (y1.trip=t))
 (some (.inl ((w64 (s0.1+y1.weight)),(w64 (s0.2+1)))))
 (some (.inl (s0.1,(w64 (s0.2+1))))))
 (some (.inr s0.1))
instance (l:List Zc) (t:Ze):ZP (Zfd l t):=⟨fun s0=>(U 3 (.be 0 0 0::.un::vi s0.1::.un::.un::.sl (l.map Zg)::vi (l.length:Int)::vi s0.2::(U 13 []))),fun s0=>[some ⟨55,2,[[vi t.leg,vi t.day]]⟩]⟩
def Zdc (l:List Zc) (t:Ze):Option Int:=
 (Zj (Zfd l t) NN (0,0)).bind (fun o0=>
 some o0)
instance (l:List Zc) (t:Ze):CT Tryz.prog (Zdc l t):=⟨36,[.sl (l.map Zg),.ag (Zs t)],[],fun r=>vi r,fun r=>[],fun H=>by replace H:=H0 H; unfold Zdc at H; exact Zh Tryz.func36 rfl Tryz.ntmps36 Tryz.results36 fun Q hQ hQn=>wk3⟩
def Zal (l:List Zc) (t:Ze) (s0:Int × Int):Option ((Int × Int) ⊕ Int):=
 cond (decide (s0.2<(l.length:Int)))
 ((getI l s0.2).bind fun y1=>
 cond (decide (y1.trip=t))
 ((getI l s0.2).bind fun y2=>
 some (.inl ((w64 (s0.1+y2.weight)),(w64 (s0.2+1)))))
 (some (.inl (s0.1,(w64 (s0.2+1))))))
 (some (.inr s0.1))
instance (l:List Zc) (t:Ze):ZP (Zal l t):=⟨fun s0=>(.sl (l.map Zg)::.un::.un::.be 0 0 0::.un::vi s0.1::vi s0.2::(U 21 [])),fun s0=>[some ⟨55,2,[[vi t.leg,vi t.day]]⟩]⟩
def Zap (l:List Zc) (t:Ze):Option Int:=
 (Zj (Zal l t) NN (0,0)).bind (fun o0=>
 some o0)
instance (l:List Zc) (t:Ze):CT Tryz.prog (Zap l t):=⟨183,[.sl (l.map Zg),.ag (Zs t)],[],fun r=>vi r,fun r=>[],fun H=>by replace H:=H0 H; unfold Zap at H; exact Zh Tryz.func183 rfl Tryz.ntmps183 Tryz.results183 fun Q hQ hQn=>wk3⟩
theorem Zou {l:List Int} (h:l.length≤1048576) (x:Int):ZdX l x=some (l.any fun y=>decide (y=x)):=by
 unfold ZdX
 rw [Zhn (xs:=l) (p:=fun y=>decide (y=x)) (r:=.inr true) (e:=.inl ()) (fun i hi=>?_) (by simp [ZfB]) (by unfold NN; omega)]
 ·cases l.any fun y=>decide (y=x) <;> rfl
 ·have hw:=ZR hi (by omega)
  have hg:getI l (i:Int)=some l[i]:=by rw [Zn]; exact List.getElem?_eq_getElem hi
  simp only [ZfB,decide_eq_true (show (i:Int)<l.length by omega),cond_true,hg,Option.bind_some,hw]
  cases decide (l[i]=x) <;> rfl
theorem Zb1 {l:List Ze} (h:l.length≤1048576) (x:Ze):ZaQ l x=some (l.any fun y=>decide (y=x)):=by
 unfold ZaQ
 rw [Zhn (xs:=l) (p:=fun y=>decide (y=x)) (r:=.inr true) (e:=.inl ()) (fun i hi=>?_) (by simp [ZeO]) (by unfold NN; omega)]
 ·cases l.any fun y=>decide (y=x) <;> rfl
 ·have hw:=ZR hi (by omega)
  have hg:getI l (i:Int)=some l[i]:=by rw [Zn]; exact List.getElem?_eq_getElem hi
  simp only [ZeO,decide_eq_true (show (i:Int)<l.length by omega),cond_true,hg,Option.bind_some,hw]
  cases decide (l[i]=x) <;> rfl
theorem Zcs:@Zaq=@ZaQ:=rfl
theorem Zqm {n:Za} (h:n.off.length≤1048576) (x:Int):(Zj (Ze7 n x) NN 0).bind (ZY (fun _=>some true) (fun r=>some r))=some (!(n.off.any fun y=>decide (y=x))):=by
 rw [Zhn (xs:=n.off) (p:=fun y=>decide (y=x)) (r:=.inr false) (e:=.inl ()) (fun i hi=>?_) (by simp [Ze7]) (by unfold NN; omega)]
 ·cases n.off.any fun y=>decide (y=x) <;> rfl
 ·have hw:=ZR hi (by omega)
  have hg:getI n.off (i:Int)=some n.off[i]:=by rw [Zn]; exact List.getElem?_eq_getElem hi
  simp only [Ze7,decide_eq_true (show (i:Int)<n.off.length by omega),cond_true,hg,Option.bind_some,hw]
  cases decide (n.off[i]=x) <;> rfl
def ZpE (x:Int):Int:=IntKind.i64.wrap (BitVec.ofInt IntKind.i64.bits x &&& BitVec.ofInt IntKind.i64.bits 1).toNat
theorem Zsj (x:Int):ZpE x=0∨ZpE x=1:=by
 unfold ZpE
 have h:(BitVec.ofInt IntKind.i64.bits x &&& BitVec.ofInt IntKind.i64.bits 1).toNat≤1:=by
  rw [BitVec.toNat_and]
  refine Nat.le_trans Nat.and_le_right ?_
  decide
 rw [show IntKind.i64.wrap ((BitVec.ofInt IntKind.i64.bits x &&& BitVec.ofInt IntKind.i64.bits 1).toNat:Int)=((BitVec.ofInt IntKind.i64.bits x &&& BitVec.ofInt IntKind.i64.bits 1).toNat:Int) from Zo (by omega)]
 omega
theorem Zf1 {n:Za} (h:Z0 n) (leg day:Int):Zd4 n leg day=ZX n leg day∧∃ b,ZX n leg day=some b:=by
 have hl:=h.legs
 have hw:w64 ((n.legs.length:Int)-1)=n.legs.length-1:=Zo (by omega)
 unfold Zd4 ZX
 rw [Zej,hw,ZbH,ZbH]
 simp only [Option.bind_some]
 by_cases h1:leg<0
 ·simp only [decide_eq_true h1,decide_eq_false (show ¬ 0≤leg by omega),cond_true,Bool.false_and,cond_false]
  exact ⟨trivial,_,rfl⟩
 by_cases h2:(n.legs.length:Int)≤leg
 ·simp only [decide_eq_false h1,decide_eq_true h2,decide_eq_false (show ¬ leg≤(n.legs.length:Int)-1 by omega),cond_true,Bool.and_false,cond_false]
  exact ⟨trivial,_,rfl⟩
 simp only [decide_eq_false h1,decide_eq_false h2,decide_eq_true (show 0≤leg by omega),decide_eq_true (show leg≤(n.legs.length:Int)-1 by omega),cond_true,Bool.and_true,cond_false]
 by_cases h3:0≤day∧day≤60
 ·simp only [decide_eq_true h3.1,decide_eq_true h3.2,Bool.and_true,Bool.not_true,cond_false,cond_true]
  have hg:getI n.legs leg=some (n.legs[leg.toNat]'(by omega)):=by
   unfold getI; rw [if_pos (by omega)]; exact List.getElem?_eq_getElem _
  rw [hg]
  simp only [Option.bind_some]
  have hm:0≤Int.tmod day 7:=Int.tmod_nonneg 7 h3.1
  rw [Zjh (decide_eq_true hm)]
  simp only [Option.bind_some]
  rw [Zqm h.off,Zou h.off]
  generalize Int.fdiv _ _=q
  have hb:=Zsj q
  unfold ZpE at hb
  rcases hb with hb | hb
  ·rw [hb]; exact ⟨rfl,_,rfl⟩
  ·rw [hb]; exact ⟨rfl,_,rfl⟩
 ·have:(decide (0≤day) && decide (day≤60))=false:=by rw [← Bool.decide_and]; exact decide_eq_false h3
  rw [this]
  exact ⟨rfl,_,rfl⟩
theorem Zs2 {n:Za} (h:Z0 n) (leg day:Int):Zfw n leg day=Zdh n leg day∧∃ b,Zdh n leg day=some b:=by
 obtain ⟨e,b,s⟩:=Zb2 h
 obtain ⟨e2,b2,s2⟩:=Zf1 h leg day
 unfold Zfw Zdh
 rw [e,e2,s,s2]
 refine ⟨rfl,?_⟩
 cases b <;> exact ⟨_,rfl⟩
theorem Zgl {n:Za} (h:Z0 n) (t:Ze):Zad n t=Zan n t∧∃ b,Zan n t=some b:=by
 obtain ⟨e,b,s⟩:=Zs2 h t.leg t.day
 unfold Zad Zan
 rw [e,s]
 exact ⟨rfl,_,rfl⟩
theorem Zis:@Zdc=@Zap:=by
 funext l t
 unfold Zdc Zap
 have:Zfd l t=Zal l t:=by
  funext s
  unfold Zfd Zal
  cases hg:getI l s.2 with
  | none=>rfl
  | some y=>simp only [Option.bind_some]
 rw [this]
def Z9 (a:Int) (b:Int):Option Int:=
 cond (decide (a<b))
 (some (-1))
 (cond (decide (b<a))
 (some 1)
 (some 0))
instance (a:Int) (b:Int):CT Tryz.prog (Z9 a b):=⟨244,[vi a,vi b],[],fun r=>vi r,fun r=>[],fun H=>by replace H:=H0 H; unfold Z9 at H; exact Zh Tryz.func244 rfl Tryz.ntmps244 Tryz.results244 fun Q hQ hQn=>wk3⟩
def ZK (list:List Int) (s0:Int):Option (Int ⊕ (Unit ⊕ Int)):=
 cond (decide (s0<(list.length:Int)))
 ((getI list s0).bind fun y1=>
 cond (!decide (y1=0))
 (some (.inr (.inr y1)))
 (some (.inl (w64 (s0+1)))))
 (some (.inr (.inl ())))
instance (list:List Int):ZP (ZK list):=⟨fun s0=>(U 5 (.sl (list.map cInt)::vi (list.length:Int)::vi s0::(U 7 []))),fun s0=>[]⟩
def ZdW (list:List Int):Option Int:=
 (Zj (ZK list) NN 0).bind (ZY (fun o0=>
 some 0) (fun r=>some r))
instance (list:List Int):CT Tryz.prog (ZdW list):=⟨243,[.sl (list.map cInt)],[],fun r=>vi r,fun r=>[],fun H=>by replace H:=H0 H; unfold ZdW at H; exact Zh Tryz.func243 rfl Tryz.ntmps243 Tryz.results243 fun Q hQ hQn=>wk3⟩
def Za4 (a:Zc) (b:Zc):Option Int:=
 (Z9 a.trip.day b.trip.day).bind fun y1=>
 (Z9 a.trip.leg b.trip.leg).bind fun y2=>
 (Z9 a.thing b.thing).bind fun y3=>
 (ZdW ([y1,y2,y3])).bind fun y4=>
 some y4
instance (a:Zc) (b:Zc):CT Tryz.prog (Za4 a b):=⟨202,[.ag (Zg a),.ag (Zg b)],[],fun r=>vi r,fun r=>[],fun H=>by replace H:=H0 H; unfold Za4 at H; exact Zh Tryz.func202 rfl Tryz.ntmps202 Tryz.results202 fun Q hQ hQn=>wk3⟩
def Zbk (n:Za) (l:List Zc) (s0:Int):Option (Int ⊕ (Unit ⊕ Bool)):=
 cond (decide (s0<(l.length:Int)))
 ((getI l s0).bind fun y2=>
 cond (decide (0<s0))
 ((getI l (w64 (s0-1))).bind fun y3=>
 (Za4 y3 y2).bind fun y4=>
 cond (decide (0≤y4))
 (some (.inr (.inr false)))
 ((Zad n y2.trip).bind fun y5=>
 cond (!y5)
 (some (.inr (.inr false)))
 ((Zx y2.thing 1 9999).bind fun y6=>
 cond (!y6)
 (some (.inr (.inr false)))
 ((Zx y2.weight 1 1000000).bind fun y7=>
 cond (!y7)
 (some (.inr (.inr false)))
 ((Zdc l y2.trip).bind fun y8=>
 (getI n.legs y2.trip.leg).bind fun y9=>
 cond (decide (y9.room<y8))
 (some (.inr (.inr false)))
 (some (.inl (w64 (s0+1)))))))))
 ((Zad n y2.trip).bind fun y10=>
 cond (!y10)
 (some (.inr (.inr false)))
 ((Zx y2.thing 1 9999).bind fun y11=>
 cond (!y11)
 (some (.inr (.inr false)))
 ((Zx y2.weight 1 1000000).bind fun y12=>
 cond (!y12)
 (some (.inr (.inr false)))
 ((Zdc l y2.trip).bind fun y13=>
 (getI n.legs y2.trip.leg).bind fun y14=>
 cond (decide (y14.room<y13))
 (some (.inr (.inr false)))
 (some (.inl (w64 (s0+1)))))))))
 (some (.inr (.inl ())))
instance (n:Za) (l:List Zc):ZP (Zbk n l):=⟨fun s0=>(.un::.sl (l.map Zg)::.be 0 0 0::(U 12 (.sl (l.map Zg)::vi (l.length:Int)::vi s0::(U 51 [])))),fun s0=>[some ⟨35,3,[[.sl (n.legs.map cLeg),.sl (n.off.map cInt),vi n.change]]⟩]⟩
def Zcd (n:Za) (l:List Zc):Option Bool:=
 (Z8 n).bind fun y1=>
 cond (!y1)
 (some false)
 (cond (decide (120<(l.length:Int)))
 (some false)
 ((Zj (Zbk n l) NN 0).bind (ZY (fun o0=>
 some true) (fun r=>some r))))
instance (n:Za) (l:List Zc):CT Tryz.prog (Zcd n l):=⟨139,[.ag (Zr n),.sl (l.map Zg)],[],fun r=>vb r,fun r=>[],fun H=>by replace H:=H0 H; unfold Zcd at H; exact Zh Tryz.func139 rfl Tryz.ntmps139 Tryz.results139 fun Q hQ hQn=>wk3⟩
def ZdO (a:Zc) (b:Zc):Option Bool:=
 cond (!decide (a.trip.day=b.trip.day))
 (some (decide (a.trip.day<b.trip.day)))
 (cond (!decide (a.trip.leg=b.trip.leg))
 (some (decide (a.trip.leg<b.trip.leg)))
 (some (decide (a.thing<b.thing))))
instance (a:Zc) (b:Zc):CT Tryz.prog (ZdO a b):=⟨182,[.ag (Zg a),.ag (Zg b)],[],fun r=>vb r,fun r=>[],fun H=>by replace H:=H0 H; unfold ZdO at H; exact Zh Tryz.func182 rfl Tryz.ntmps182 Tryz.results182 fun Q hQ hQn=>wk3⟩
def Zb6 (n:Za) (l:List Zc) (s0:Int):Option (Int ⊕ (Unit ⊕ Bool)):=
 cond (decide (s0<(l.length:Int)))
 ((getI l s0).bind fun y2=>
 (ZX n y2.trip.leg y2.trip.day).bind fun y3=>
 cond (!y3)
 (some (.inr (.inr false)))
 ((ZJ y2.thing 1 9999).bind fun y4=>
 cond (!y4)
 (some (.inr (.inr false)))
 ((ZJ y2.weight 1 1000000).bind fun y5=>
 cond (!y5)
 (some (.inr (.inr false)))
 (cond (decide (0<s0))
 ((getI l (w64 (s0-1))).bind fun y6=>
 (ZdO y6 y2).bind fun y7=>
 cond (!y7)
 (some (.inr (.inr false)))
 (some (.inl (w64 (s0+1)))))
 (some (.inl (w64 (s0+1))))))))
 (some (.inr (.inl ())))
instance (n:Za) (l:List Zc):ZP (Zb6 n l):=⟨fun s0=>(.un::.sl (l.map Zg)::.be 0 0 0::.un::.un::vi s0::(U 80 [])),fun s0=>[some ⟨35,3,[[.sl (n.legs.map cLeg),.sl (n.off.map cInt),vi n.change]]⟩]⟩
def Zb7 (n:Za) (l:List Zc) (s1:Int):Option (Int ⊕ (Unit ⊕ Bool)):=
 cond (decide (s1<(l.length:Int)))
 ((getI l s1).bind fun y8=>
 (Zap l y8.trip).bind fun y9=>
 (getI l s1).bind fun y10=>
 (getI n.legs y10.trip.leg).bind fun y11=>
 cond (decide (y11.room<y9))
 (some (.inr (.inr false)))
 (some (.inl (w64 (s1+1)))))
 (some (.inr (.inl ())))
instance (n:Za) (l:List Zc):ZP (Zb7 n l):=⟨fun s1=>(.un::.sl (l.map Zg)::.be 0 0 0::(U 4 (vi s1::(U 78 [])))),fun s1=>[some ⟨35,3,[[.sl (n.legs.map cLeg),.sl (n.off.map cInt),vi n.change]]⟩]⟩
def ZaG (n:Za) (l:List Zc):Option Bool:=
 (Zi n).bind fun y1=>
 cond (!y1)
 (some false)
 (cond (decide (120<(l.length:Int)))
 (some false)
 ((Zj (Zb6 n l) NN 0).bind (ZY (fun o0=>
 (Zj (Zb7 n l) NN 0).bind (ZY (fun o1=>
 some true) (fun r=>some r))) (fun r=>some r))))
instance (n:Za) (l:List Zc):CT Tryz.prog (ZaG n l):=⟨107,[.ag (Zr n),.sl (l.map Zg)],[],fun r=>vb r,fun r=>[],fun H=>by replace H:=H0 H; unfold ZaG at H; exact Zh Tryz.func107 rfl Tryz.ntmps107 Tryz.results107 fun Q hQ hQn=>wk3⟩
end Go.Proofs.YtmcdjilbkmhfoaaGreat
