/- A part of the proof of the statement in the last file of this claim: texts on the language of the program and on its functions. No condition. -/
import Derived.Test.YtkfbakhnpfmfmaaGreatDoorCFnActRead2
import Derived.Test.YtkfbakhnpfmfmaaGreatDoorProg
set_option linter.unusedVariables false
set_option linter.unusedSimpArgs false
set_option linter.unusedSectionVars false
namespace Go.Proofs.YtkfbakhnpfmfmaaGreatDoor
set_option maxRecDepth 10000
open Go.RowKit
set_option linter.unusedVariables false
set_option linter.unusedSimpArgs false
def Ze9 (ρ:Nat→Option Nat) (m':Mem) (k:Nat):Prop:=∀ l,ZhI m' l=true→ρ l≠some k
def rowC (es:List (List PV)):Prop:=∀ cs∈es,∀ q∈cs,isC q=true
inductive CutC (ρ:Nat→Option Nat) (m m':Mem):PV→PV→Prop
 | un (p:PV):CutC ρ m m' p .un
 | c (p:PV) (h:isC p=true):CutC ρ m m' p p
 | ms (l k:Nat) (h:ρ l=some k) (hl:l<m'.length):CutC ρ m m' (.ms k) (.ms l)
 | ss (l k a b:Nat) (h:ρ l=some k) (hl:l<m'.length):CutC ρ m m' (.ss k a b) (.ss l a b)
 | be (l k i o:Nat) (h:ρ l=some k) (hl:l<m'.length):CutC ρ m m' (.be k i o) (.be l i o)
 | nilms (l:Nat) (h:ρ l=none) (hl:l<m'.length):CutC ρ m m' (.v (.slice none 0 0)) (.ms l)
 | nilsl (c:Nat):CutC ρ m m' (.v (.slice none 0 c)) (.sl [])
 | fms (k:Nat) (mb:MB) (hm:m[k]?=some (some mb)) (hc:rowC mb.es) (hd:Ze9 ρ m' k):CutC ρ m m' (.ms k) (.sl mb.es)
 | fss (k a b:Nat) (mb:MB) (hm:m[k]?=some (some mb)) (hc:rowC mb.es) (hd:Ze9 ρ m' k):CutC ρ m m' (.ss k a b) (.sl ((mb.es.drop a).take (b-a)))
 | fbe (k i o:Nat) (mb:MB) (cs:List PV) (hm:m[k]?=some (some mb)) (hi:mb.es[i]?=some cs) (hc:∀ q∈cs,isC q=true) (hd:Ze9 ρ m' k):CutC ρ m m' (.be k i o) (.rp (cs.drop o))
 | fn (f:FuncId) (cs ds:List PV) (hl:ds.length=cs.length) (h:∀ (j:Nat) (p r:PV),cs[j]?=some p→ds[j]?=some r→CutC ρ m m' p r):CutC ρ m m' (.fn f cs) (.fn f ds)
def cutL (ρ:Nat→Option Nat) (m m':Mem):List PV→List PV→Prop
 | [],[]=>True
 | p::ps,r::rs=>CutC ρ m m' p r∧cutL ρ m m' ps rs
 | _,_=>False
inductive CutA (ρ:Nat→Option Nat) (m m':Mem):PV→PV→Prop
 | c {p r:PV} (h:CutC ρ m m' p r):CutA ρ m m' p r
 | ag (cs ds:List PV) (h:cutL ρ m m' cs ds):CutA ρ m m' (.ag cs) (.ag ds)
def Znl (ρ:Nat→Option Nat) (m m':Mem):List PV→List PV→Prop
 | [],[]=>True
 | p::ps,r::rs=>CutA ρ m m' p r∧Znl ρ m m' ps rs
 | _,_=>False
inductive CutV (ρ:Nat→Option Nat) (m m':Mem):PV→PV→Prop
 | a {p r:PV} (h:CutA ρ m m' p r):CutV ρ m m' p r
 | tu (cs ds:List PV) (h:Znl ρ m m' cs ds):CutV ρ m m' (.tu cs) (.tu ds)
def cutT (ρ:Nat→Option Nat) (m m':Mem):List PV→List PV→Prop
 | [],[]=>True
 | p::ps,r::rs=>CutV ρ m m' p r∧cutT ρ m m' ps rs
 | _,_=>False
def cutE (ρ:Nat→Option Nat) (m m':Mem):List (List PV)→List (List PV)→Prop
 | [],[]=>True
 | p::ps,r::rs=>cutL ρ m m' p r∧cutE ρ m m' ps rs
 | _,_=>False
def cutB (ρ:Nat→Option Nat) (m m':Mem) (mb mb':MB):Prop:=
 mb'.T.t=mb.T.t∧mb'.k=mb.k∧((mb'.es=mb.es∧rowC mb.es)∨cutE ρ m m' mb.es mb'.es)
def AdAt (m:Mem) (k:Nat) (q:Key):Prop:=∃ (l:Nat) (mb:MB) (T:TypeId) (i:Nat) (cs:List PV) (j:Nat),m[l]?=some (some mb)∧mb.T.kd=some T∧mb.es[i]?=some cs∧cs[j]?=some (PV.ms k)∧q=(mb.T.t,i,j)
def AdU (m:Mem) (k:Nat) (q:Key):Prop:=AdAt m k q∧∀ q',AdAt m k q'→q'=q
def cutK (ρ:Nat→Option Nat) (m m':Mem) (mb mb':MB):Prop:=
 ∀ T,mb'.T.kd=some T→∀ (i:Nat) (ds:List PV) (j:Nat) (es:List (List PV)),mb'.es[i]?=some ds→ds[j]?=some (.sl es)→es≠[]→
  (mb.T.kd=some T∧∃ cs,mb.es[i]?=some cs∧cs[j]?=some (.sl es))∨
  ∃ cs k mk,mb.es[i]?=some cs∧cs[j]?=some (.ms k)∧AdU m k (mb.T.t,i,j)∧m[k]?=some (some mk)∧mk.T.t=T∧mk.es=es∧Ze9 ρ m' k
structure CutM (n0:Nat) (ρ:Nat→Option Nat) (m m':Mem):Prop where
 row:∀ l mb',m'[l]?=some (some mb')→(∃ k mb,ρ l=some k∧m[k]?=some (some mb)∧cutB ρ m m' mb mb'∧cutK ρ m m' mb mb')∨(ρ l=none∧mb'.es=[]∧0<mb'.k)
 inj:∀ l l' k,ZhI m' l=true→ZhI m' l'=true→ρ l=some k→ρ l'=some k→l=l'
 low:∀ l,l<n0→ZhI m' l=true→ρ l=some l
 n0:n0≤m'.length
def Cut (n0:Nat) (t:List PV) (m:Mem) (t':List PV) (m':Mem):Prop:=∃ ρ:Nat→Option Nat,cutT ρ m m' t t'∧CutM n0 ρ m m'
inductive Cuts (n0:Nat):List PV→Mem→List PV→Mem→Prop
 | one {t m t' m'} (h:Cut n0 t m t' m'):Cuts n0 t m t' m'
 | two {t m t1 m1 t' m'} (h:Cut n0 t m t1 m1) (h':Cuts n0 t1 m1 t' m'):Cuts n0 t m t' m'
def ZgH (K:List PV→Mem→Prop) (Q:Exit→List PV→Mem→Prop):Exit→List PV→Mem→Prop
 | .normal,t,m=>K t m
 | e,t,m=>Q e t m
def Ziu (id:Nat) (Q:Exit→List PV→Mem→Prop):Exit→List PV→Mem→Prop
 | .exit i,t,m=>if i=id then Q .normal t m else Q (.exit i) t m
 | e,t,m=>Q e t m
def rgnP (P:Program) (draw:Bool) (ops:Array Oper) (K:List PV→Mem→Prop) (t:List PV) (m:Mem):Prop:=
 match draw with
 | false=>pops P ops K ops.toList t m
 | true=>P.follows .mixedOrders=true∧∃ wd fl,0<wd∧Zee P wd m.length fl ops (fun g t m=>chkD ops.toList g=true∧K t m) 0 ops.toList [] t m
def pwp (P:Program) (n0:Nat):Code→(Exit→List PV→Mem→Prop)→List PV→Mem→Prop
 | .skip,Q,t,m=>Q .normal t m
 | .seq a b,Q,t,m=>pwp P n0 a (ZgH (fun t m=>pwp P n0 b Q t m) Q) t m
 | .cond c x y,Q,t,m=>match evP t c with
  | .v (.bool b)=>if b=true then pwp P n0 x Q t m else pwp P n0 y Q t m
  | _=>False
 | .block id c,Q,t,m=>pwp P n0 c (Ziu id Q) t m
 | .loop c,Q,t,m=>∃ (I:Nat→List PV→Mem→Prop) (n:Nat) (t0:List PV) (m0:Mem),Cuts n0 t m t0 m0∧I n t0 m0∧∀ n t m,I n t m→pwp P n0 c (ZgH (fun t m=>∃ k t' m',k<n∧Cuts n0 t m t' m'∧I k t' m') Q) t m
 | .exit i,Q,t,m=>Q (.exit i) t m
 | .ret,Q,t,m=>Q .ret t m
 | .region _ ops draw,Q,t,m=>rgnP P draw ops (Q .normal) t m∨∃ t1 m1,Cuts n0 t m t1 m1∧rgnP P draw ops (Q .normal) t1 m1
 | _,_,_,_=>False
structure Fr where
 w0:World
 O:Nat→Prop
 β0:Nat→Option Blk
 n0:Nat
 S0:Nat→Prop
 ω0:Nat→Key→Prop
def Zgj (F:Fr) (t:List PV) (m:Mem) (a:Act) (w:World):Prop:=
 ∃ E,Ok F.w0 F.O E w m∧(∀ b,F.S0 b→E.S b)∧SBd F.S0 F.ω0 F.w0 F.O E∧(∀ l B,l<F.n0→E.β l=some B→F.β0 l=some B)∧(∀ l,l<F.n0→E.used l)∧a.defers=[]∧RepT w E t a.tmps
section
variable {w:World} {O:Nat→Prop} {E:Env} {w0:World} {m m':Mem} {P:Program} {ρ:Nat→Option Nat} {n0:Nat} {F:Fr}
def Zgn (E:Env) (m:Mem) (ρ:Nat→Option Nat) (m':Mem):Env:=
 { S:=fun b=>E.S b∨∃ k B,E.β k=some B∧B.z=false∧B.b=b∧Ze9 ρ m' k
   β:=fun l=>match m'[l]? with
    | some (some mb')=>match ρ l with
     | some k=>E.β k
     | none=>some ⟨0,0,0,mb'.k,mb'.T.t,true⟩
    | _=>none
   used:=fun l=>l<m'.length
   ω:=fun b q=>E.ω b q∨∃ k B,E.β k=some B∧B.z=false∧B.b=b∧Ze9 ρ m' k∧AdU m k q }
theorem Zcq {l:Nat} {B:Blk} (h:(Zgn E m ρ m').β l=some B):ZhI m' l=true∧((∃ k,ρ l=some k∧E.β k=some B)∨(ρ l=none∧B.z=true)):=by
 simp only [Zgn] at h
 split at h
 ·rename_i mb' hm
  refine ⟨Zgx.2 ⟨mb',hm⟩,?_⟩
  split at h
  ·exact .inl ⟨_,by assumption,h⟩
  ·refine .inr ⟨by assumption,?_⟩
   simp only [Option.some.injEq] at h
   rw [← h]
 ·cases h
theorem ZqE {l:Nat} {B:Blk} (hB:(Zgn E m ρ m').β l=some B) (hn:ρ l=none):B.sv=.slice none 0 0:=by
 rcases (Zcq hB).2 with ⟨k,h,_⟩ | ⟨_,h⟩
 ·rw [hn] at h; cases h
 ·simp [Blk.sv,h]
theorem Zk4 (hk:Ok w0 O E w m) {p r:PV} (h:CutC ρ m m' p r):∀ {x:Value},Rep w E p x→Rep w (Zgn E m ρ m') r x:=by
 induction h with
 | un p=>intro x hx; exact .un' x
 | c p h=>intro x hx; exact .c ((hx.toC h).all fun b hb=>.inl hb)
 | ms l k h hl=>
  intro x hx
  cases hx with
  | c h=>cases h
  | ms _ _ _ h1 h2=>
   refine .ms _ _ hl h1 fun B hB=>?_
   rcases (Zcq hB).2 with ⟨k',e,hB'⟩ | ⟨e,_⟩
   ·rw [h] at e; cases e; exact h2 B hB'
   ·rw [h] at e; cases e
 | ss l k a b h hl=>
  intro x hx
  cases hx with
  | c h=>cases h
  | ss _ _ _ _ _ h1 h2=>
   refine .ss _ _ _ _ hl h1 fun B hB=>?_
   rcases (Zcq hB).2 with ⟨k',e,hB'⟩ | ⟨e,_⟩
   ·rw [h] at e; cases e; exact h2 B hB'
   ·rw [h] at e; cases e
 | be l k i o h hl=>
  intro x hx
  cases hx with
  | c h=>cases h
  | be _ _ _ _ _ h1 h2=>
   refine .be _ _ _ _ hl h1 fun B hB=>?_
   rcases (Zcq hB).2 with ⟨k',e,hB'⟩ | ⟨e,_⟩
   ·rw [h] at e; cases e; exact h2 B hB'
   ·rw [h] at e; cases e
 | nilms l h hl=>
  intro x hx
  obtain ⟨rfl,h1⟩:=hx.v_inv
  exact .ms _ _ hl h1 fun B hB=>(ZqE hB h).symm
 | nilsl c=>
  intro x hx
  obtain ⟨rfl,_⟩:=hx.v_inv
  exact .c (.nil none c)
 | fms k mb hm hc hd=>
  intro x hx
  obtain ⟨B,hB,hb,rfl⟩:=hx.ms_inv hk hm
  exact .c (Zr6 hB hb hc (fun b hb=>.inl hb) fun hz=>.inr ⟨k,B,hB,hz,rfl,hd⟩)
 | fss k a b mb hm hc hd=>
  intro x hx
  obtain ⟨B,hB,hb,A,c,rfl,hab,hbn,hA⟩:=hx.ss_inv hk hm
  exact .c (Zlv hB hb hc (fun b hb=>.inl hb) (fun hz=>.inr ⟨k,B,hB,hz,rfl,hd⟩) hab hbn hA)
 | fbe k i o mb cs hm hi hc hd=>
  intro x hx
  obtain ⟨B,hB,hb,hz,rfl⟩:=hx.be_inv hk hm
  obtain ⟨cells,m1,m2,m3⟩:=hb.mem hz
  have hex:∀ j:Nat,∃ u:Value,∀ p,cs[o+j]?=some p→cells[i*B.k+(o+j)]?=some u∧u.oneCell'=true∧RepC w (Zgn E m ρ m').S p u:=by
   intro j
   cases hj:cs[o+j]? with
   | none=>exact ⟨undef,fun p h=>by simp at h⟩
   | some p=>
    obtain ⟨u,u1,u2,u3⟩:=m3 i cs (o+j) p hi hj
    refine ⟨u,fun p' h=>?_⟩
    simp only [Option.some.injEq] at h
    subst h
    exact ⟨u1,u2,(u3.toC (hc p (List.mem_of_getElem? hj))).all fun b hb=>.inl hb⟩
  obtain ⟨f,hf⟩:=Classical.axiomOfChoice hex
  refine .c (.rp _ B.b (i*B.k+o) f (.inr ⟨k,B,hB,hz,rfl,hd⟩) (fun j p hj=>?_) (fun j p hj=>?_) fun j p hj=>?_)
  ·rw [List.getElem?_drop] at hj
   rw [cell_of_row w B.b _ cells B.T (0,0) m1,Nat.add_assoc]; exact (hf j p hj).1
  ·rw [List.getElem?_drop] at hj; exact (hf j p hj).2.1
  ·rw [List.getElem?_drop] at hj; exact (hf j p hj).2.2
 | fn f cs ds hl h ih=>
  intro x hx
  obtain ⟨vs,rfl,hvl,hr⟩:=hx.fn_inv
  refine .fn f ds vs (by rw [hvl,hl]) fun j r x hr' hx'=>?_
  have hj:j<cs.length:=by rw [← hl]; exact (List.getElem?_eq_some_iff.1 hr').1
  exact ih j cs[j] r (List.getElem?_eq_getElem hj) hr' (hr j _ x (List.getElem?_eq_getElem hj) hx')
theorem ZgL:∀ {ps rs:List PV},cutL ρ m m' ps rs→rs.length=ps.length∧∀ (j:Nat) (r:PV),rs[j]?=some r→∃ p,ps[j]?=some p∧CutC ρ m m' p r
 | [],[],_=>⟨rfl,by simp⟩
 | [],_::_,h=>h.elim
 | _::_,[],h=>h.elim
 | p::ps,r::rs,h=>by
  obtain ⟨h1,h2⟩:=ZgL h.2
  refine ⟨by simp [h1],fun j q hq=>?_⟩
  cases j with
  | zero=>obtain rfl:r=q:=by simpa using hq
          exact ⟨p,rfl,h.1⟩
  | succ j=>exact h2 j q (by simpa using hq)
theorem Zop (hk:Ok w0 O E w m) {p r:PV} (h:CutA ρ m m' p r) {x:Value} (hx:Rep w E p x):Rep w (Zgn E m ρ m') r x:=by
 cases h with
 | c h=>exact Zk4 hk h hx
 | ag cs ds h=>
  obtain ⟨vs,rfl,hl,h1,hr⟩:=hx.ag_inv
  obtain ⟨e1,e2⟩:=ZgL h
  refine .ag _ vs (by rw [hl,e1]) h1 fun j r x hr' hx'=>?_
  obtain ⟨p,hp,hc⟩:=e2 j r hr'
  exact Zk4 hk hc (hr j p x hp hx')
theorem Zl3:∀ {ps rs:List PV},Znl ρ m m' ps rs→rs.length=ps.length∧∀ (j:Nat) (r:PV),rs[j]?=some r→∃ p,ps[j]?=some p∧CutA ρ m m' p r
 | [],[],_=>⟨rfl,by simp⟩
 | [],_::_,h=>h.elim
 | _::_,[],h=>h.elim
 | p::ps,r::rs,h=>by
  obtain ⟨h1,h2⟩:=Zl3 h.2
  refine ⟨by simp [h1],fun j q hq=>?_⟩
  cases j with
  | zero=>obtain rfl:r=q:=by simpa using hq
          exact ⟨p,rfl,h.1⟩
  | succ j=>exact h2 j q (by simpa using hq)
theorem Zs0 (hk:Ok w0 O E w m) {p r:PV} (h:CutV ρ m m' p r) {x:Value} (hx:Rep w E p x):Rep w (Zgn E m ρ m') r x:=by
 cases h with
 | a h=>exact Zop hk h hx
 | tu cs ds h=>
  obtain ⟨vs,rfl,hl,hr⟩:=hx.tu_inv
  obtain ⟨e1,e2⟩:=Zl3 h
  refine .tu _ vs (by rw [hl,e1]) fun j r x hr' hx'=>?_
  obtain ⟨p,hp,hc⟩:=e2 j r hr'
  exact Zop hk hc (hr j p x hp hx')
theorem ZoA:∀ {ps rs:List PV},cutT ρ m m' ps rs→rs.length=ps.length∧∀ (j:Nat) (r:PV),rs[j]?=some r→∃ p,ps[j]?=some p∧CutV ρ m m' p r
 | [],[],_=>⟨rfl,by simp⟩
 | [],_::_,h=>h.elim
 | _::_,[],h=>h.elim
 | p::ps,r::rs,h=>by
  obtain ⟨h1,h2⟩:=ZoA h.2
  refine ⟨by simp [h1],fun j q hq=>?_⟩
  cases j with
  | zero=>obtain rfl:r=q:=by simpa using hq
          exact ⟨p,rfl,h.1⟩
  | succ j=>exact h2 j q (by simpa using hq)
theorem Zf3:∀ {ps rs:List (List PV)},cutE ρ m m' ps rs→rs.length=ps.length∧∀ (j:Nat) (r:List PV),rs[j]?=some r→∃ p,ps[j]?=some p∧cutL ρ m m' p r
 | [],[],_=>⟨rfl,by simp⟩
 | [],_::_,h=>h.elim
 | _::_,[],h=>h.elim
 | p::ps,r::rs,h=>by
  obtain ⟨h1,h2⟩:=Zf3 h.2
  refine ⟨by simp [h1],fun j q hq=>?_⟩
  cases j with
  | zero=>obtain rfl:r=q:=by simpa using hq
          exact ⟨p,rfl,h.1⟩
  | succ j=>exact h2 j q (by simpa using hq)
theorem Ok.cut (hk:Ok w0 O E w m) (h:CutM n0 ρ m m'):Ok w0 O (Zgn E m ρ m') w m':=by
 refine ⟨hk.up,?_,fun l B hB hz=>?_,fun l l' B B' hB hB' hz hz' e=>?_,fun l hl=>hl,fun l B hB=>?_,fun l mb' hm'=>?_,fun l B hB=>Zgx.1 (Zcq hB).1,hk.tab,fun b q hq=>?_⟩
 ·rintro b (hb | ⟨k,B,hB,hz,rfl,_⟩)
  ·exact hk.sz b hb
  ·exact (hk.own k B hB hz).2.1
 ·obtain ⟨hl,⟨k,e,hB'⟩ | ⟨_,hz'⟩⟩:=Zcq hB
  ·obtain ⟨a,b,c⟩:=hk.own k B hB' hz
   refine ⟨a,b,?_⟩
   rintro (hS | ⟨k2,B2,hB2,hz2,e2,hno⟩)
   ·exact c hS
   ·have:=hk.inj k k2 B B2 hB' hB2 hz hz2 e2.symm
    subst this
    exact hno l hl e
  ·rw [hz] at hz'; cases hz'
 ·obtain ⟨hl,⟨k,e1,h1⟩ | ⟨_,h1⟩⟩:=Zcq hB
  ·obtain ⟨hl',⟨k',e2,h2⟩ | ⟨_,h2⟩⟩:=Zcq hB'
   ·have:=hk.inj k k' B B' h1 h2 hz hz' e
    subst this
    exact h.inj l l' k hl hl' e1 e2
   ·rw [hz'] at h2; cases h2
  ·rw [hz] at h1; cases h1
 ·have:=(Zcq hB).1
  obtain ⟨mb,hm⟩:=Zgx.1 this
  exact (List.getElem?_eq_some_iff.1 hm).1
 ·rcases h.row l mb' hm' with ⟨k,mb,hρ,hm,⟨hT,hkk,hes⟩,hkey⟩ | ⟨hρ,h0,hpos⟩
  ·obtain ⟨B,hB,hb⟩:=hk.mem k mb hm
   refine ⟨B,by simp only [Zgn]; rw [hm']; simp only [hρ]; exact hB,by rw [hb.k,hkk],?_,by rw [hb.T,hT],hb.pos,hb.nc,hb.cm,?_,fun hz=>?_,fun hz=>?_,fun T1 hT1 hz i ds j es x hi hj hne hcx=>?_⟩
   ·rcases hes with ⟨e,_⟩ | he
    ·rw [hb.n,e]
    ·rw [hb.n,(Zf3 he).1]
   ·intro i ds hi
    rcases hes with ⟨e,_⟩ | he
    ·rw [e] at hi; exact hb.es i ds hi
    ·obtain ⟨cs,hcs,hc⟩:=(Zf3 he).2 i ds hi
     rw [(ZgL hc).1]; exact hb.es i cs hcs
   ·have h0:=hb.nil hz
    rcases hes with ⟨e,_⟩ | he
    ·rw [e]; exact h0
    ·have:=(Zf3 he).1
     rw [h0] at this
     exact List.length_eq_zero_iff.1 this
   ·obtain ⟨cells,m1,m2,m3⟩:=hb.mem hz
    refine ⟨cells,m1,m2,fun i ds j r hi hj=>?_⟩
    rcases hes with ⟨e,hcl⟩ | he
    ·rw [e] at hi
     obtain ⟨x,x1,x2,x3⟩:=m3 i ds j r hi hj
     exact ⟨x,x1,x2,.c ((x3.toC (hcl ds (List.mem_of_getElem? hi) r (List.mem_of_getElem? hj))).all fun b hb=>.inl hb)⟩
    ·obtain ⟨cs,hcs,hc⟩:=(Zf3 he).2 i ds hi
     obtain ⟨p,hp,hc'⟩:=(ZgL hc).2 j r hj
     obtain ⟨x,x1,x2,x3⟩:=m3 i cs j p hcs hp
     exact ⟨x,x1,x2,Zk4 hk hc' x3⟩
   ·rw [hT]
    rcases hkey T1 hT1 i ds j es hi hj hne with ⟨g1,cs,g2,g3⟩ | ⟨cs,kk,mk,g1,g2,g3,g4,g5,g6,g7⟩
    ·obtain ⟨b,c,k',cs',a1,a2,a3⟩:=hb.key T1 g1 hz i cs j es x g2 g3 hne hcx
     exact ⟨b,c,k',cs',a1,.inl a2,a3⟩
    ·obtain ⟨Bk,hBk,hbk⟩:=hk.mem kk mk g4
     obtain ⟨cells,m1,m2,m3⟩:=hb.mem hz
     obtain ⟨y,y1,y2,y3⟩:=m3 i cs j _ g1 g2
     rw [cell_of_row w B.b _ cells B.T (0,0) m1,y1] at hcx
     obtain rfl:y=x:=by simpa using hcx
     obtain ⟨B1,hB1,_,rfl⟩:=y3.ms_inv hk g4
     obtain rfl:Bk=B1:=by rw [hBk] at hB1; simpa using hB1
     have hz1:Bk.z=false:=hbk.full' (by rw [g6]; exact List.length_pos_iff.2 hne)
     obtain ⟨cells1,n1,n2,n3⟩:=hbk.mem hz1
     refine ⟨Bk.b,Bk.c,Bk.k,cells1,by rw [show Bk.sv=.slice (some ⟨Bk.b,0,none⟩) Bk.n Bk.c by simp [Blk.sv,hz1],hbk.n,g6],.inr ⟨kk,Bk,hBk,hz1,rfl,g7,g3⟩,by rw [← g5,← hbk.T]; exact n1,n2,hbk.pos,by rw [← g6,← hbk.n]; exact hbk.nc,hbk.cm,fun e he=>?_⟩
     rw [← g6] at he
     obtain ⟨i1,hi1⟩:=List.getElem?_of_mem he
     exact hbk.es i1 e hi1
  ·refine ⟨⟨0,0,0,mb'.k,mb'.T.t,true⟩,by simp only [Zgn]; rw [hm']; simp only [hρ],rfl,by rw [h0]; rfl,rfl,hpos,Nat.le_refl _,Nat.zero_le _,by rw [h0]; simp,fun _=>h0,fun h=>(by cases h),fun _ _ h=>by cases h⟩
 ·rcases hq with hq | ⟨k,B,hB,hz,rfl,hd,ha⟩
  ·refine ⟨.inl (hk.ow b q hq).1,fun q' hq'=>?_⟩
   rcases hq' with h' | ⟨k,B,hB,hz,rfl,_⟩
   ·exact (hk.ow b q hq).2 q' h'
   ·exact absurd (hk.ow _ q hq).1 (hk.own k B hB hz).2.2
  ·refine ⟨.inr ⟨k,B,hB,hz,rfl,hd⟩,fun q' hq'=>?_⟩
   rcases hq' with h' | ⟨k2,B2,hB2,hz2,e2,_,ha2⟩
   ·exact absurd (hk.ow _ q' h').1 (hk.own k B hB hz).2.2
   ·have:=hk.inj k2 k B2 B hB2 hB hz2 hz e2
    subst this
    exact ha.2 q' ha2.1
theorem Zgj.cut {t t':List PV} {a:Act} (h:Zgj F t m a w) (hc:Cut F.n0 t m t' m'):Zgj F t' m' a w:=by
 obtain ⟨E,hk,hs1,hs2,hb0,hu0,hd,ht⟩:=h
 obtain ⟨ρ,h1,h2⟩:=hc
 obtain ⟨e1,e2⟩:=ZoA h1
 refine ⟨Zgn E m ρ m',hk.cut h2,fun b hb=>.inl (hs1 b hb),⟨fun b hb=>?_,fun b q hb=>?_⟩,fun l B hl hB=>?_,fun l hl=>Nat.lt_of_lt_of_le hl h2.n0,hd,by rw [ht.1,e1],fun i r hr=>?_⟩
 ·rcases hb with hb | ⟨k,B,hB,hz,rfl,_⟩
  ·exact hs2.1 b hb
  ·rcases (hk.own k B hB hz).1 with h | h
   ·exact .inr (.inr h)
   ·exact .inr (.inl h)
 ·rcases hb with hb | ⟨k,B,hB,hz,rfl,_⟩
  ·exact hs2.2 b q hb
  ·rcases (hk.own k B hB hz).1 with h | h
   ·exact .inr (.inr h)
   ·exact .inr (.inl h)
 ·obtain ⟨hlv,⟨k,e,hB'⟩ | ⟨e,_⟩⟩:=Zcq hB
  ·rw [h2.low l hl hlv] at e
   cases e
   exact hb0 l B hl hB'
  ·rw [h2.low l hl hlv] at e; cases e
 ·obtain ⟨p,hp,hcv⟩:=e2 i r hr
  exact Zs0 hk hcv (ht.2 i p hp)
theorem Zgj.cuts {t t':List PV} {a:Act} {n0:Nat} (hc:Cuts n0 t m t' m') (hn:F.n0=n0) (h:Zgj F t m a w):Zgj F t' m' a w:=by
 subst hn
 induction hc with
 | one hc=>exact h.cut hc
 | two hc _ ih=>exact ih (h.cut hc)
theorem ZsH {c:Code} {Q:Exit→Act→World→Prop} (I:Nat→Act→World→Prop) (round:∀ n a w,I n a w→c.wp P (Exit.then (fun a' w'=>∃ k,k<n∧I k a' w') Q) a w) {n:Nat} {a:Act} {w:World} (h0:I n a w):(Code.loop c).wp P Q a w:=by
 intro b k cs
 have key:∀ n a w,I n a w→∃ e a' w',Q e a' w'∧Arrives P (lone (b.at a (.code c::.inLoop c::k)) cs w) b k cs e a' w':=by
  intro n
  induction n using Nat.strongRecOn with
  | _ n ih=>
   intro a w hI
   obtain ⟨e,a₁,w₁,hq,harr⟩:=round n a w hI b (.inLoop c::k) cs
   cases e with
   | normal=>
    obtain ⟨j,hlt,hI₁⟩:=hq
    obtain ⟨e₂,a₂,w₂,hq₂,harr₂⟩:=ih j hlt a₁ w₁ hI₁
    exact ⟨e₂,a₂,w₂,hq₂,.of_steps (Steps.trans harr (.one step_inLoop)) harr₂⟩
   | exit id=>exact ⟨_,a₁,w₁,hq,.pass (x:=.inLoop c) rfl (fun _ _=>.inl (by simp)) harr⟩
   | goto l=>exact ⟨_,a₁,w₁,hq,.pass (x:=.inLoop c) rfl (fun _ _=>.inl (by simp)) harr⟩
   | ret=>exact ⟨_,a₁,w₁,hq,.pass (x:=.inLoop c) rfl (fun _ _=>.inl (by simp)) harr⟩
   | panic ch=>exact ⟨_,a₁,w₁,hq,.pass (x:=.inLoop c) rfl (fun _ _=>.inl (by simp)) harr⟩
   | outgrown=>exact ⟨_,a₁,w₁,hq,.pass (x:=.inLoop c) rfl (fun _ _=>.inl (by simp)) harr⟩
 obtain ⟨e,a',w',hq,harr⟩:=key n a w h0
 exact ⟨e,a',w',hq,.of_steps (.one step_loop) harr⟩
def Zvn (F:Fr) (Q:Exit→List PV→Mem→Prop):Exit→Act→World→Prop:=fun e a w=>∃ t m,Q e t m∧Zgj F t m a w
theorem ZmU {id:Nat} {ops:Array Oper} {draw:Bool} {Q:Exit→List PV→Mem→Prop} {t:List PV} {m:Mem} {a:Act} {w:World} (h:rgnP P draw ops (Q .normal) t m) (hr:Zgj F t m a w):(Code.region id ops draw).wp P (Zvn F Q) a w:=by
 obtain ⟨E,hk,hs1,hs2,hb0,hu0,hd,ht⟩:=hr
 cases draw with
 | false=>
  refine wp_region_list (Zij ops.toList t m E w a hk hd ht h ?_)
  intro t m E' w' a' hK h1 hx h2 h3
  exact ⟨t,m,hK,E',h1,fun b hb=>hx.S b (hs1 b hb),ZuB hk hs2 hx,fun l B hl hB=>hb0 l B hl (hx.β l B (hu0 l hl) hB),fun l hl=>hx.used l (hu0 l hl),h2,h3⟩
 | true=>
  obtain ⟨hf,wd,fl,hwd,hp⟩:=h
  obtain ⟨as_,gs,h1,h2,⟨hchk,hK⟩,hst⟩:=ZmK ops.toList 0 [] t m hp
  simp only [List.nil_append] at hchk
  have hsc:Zwe P wd ops.toList as_ gs t m:=⟨h1,h2,hchk,fun k o hko=>by
   obtain ⟨a,e,g1,g2,g3⟩:=hst k o hko
   simp only [Nat.zero_add] at g3
   exact ⟨a,e,g1,g2,g3⟩⟩
  have hu:Ok F.w0 F.O E { w with drawn:=w.drawn+1 } m∧Ext w { w with drawn:=w.drawn+1 } E E:=hk.drew 1
  refine wp_region_any hf ?_
  have hre:∀ (j:Nat),(Array.replicate ops.size false).getD j false=false:=fun j=>by
   rw [Array.getD_eq_getD_getElem?,Array.getElem?_replicate]
   split <;> rfl
  have hfun:(fun j=>(Array.replicate ops.size false).getD j false)=fun _=>false:=funext hre
  have hopsL:ops.toList.toArray=ops:=by simp
  have key:=Znt (w0:=F.w0) (O:=F.O) (S0:=F.S0) (ω0:=F.ω0) hwd hsc (J:=fun E=>(∀ l B,l<F.n0→E.β l=some B→F.β0 l=some B)∧∀ l,l<F.n0→E.used l)
   (fun w w' E E' hx hJ=>⟨fun l B hl hB=>hJ.1 l B hl (hx.β l B (hJ.2 l hl) hB),fun l hl=>hx.used l (hJ.2 l hl)⟩) (K:=Q .normal) (Q:=Zvn F Q) hK
   (fun t m a w E hK hk h1 h2 hd ht hJ=>⟨t,m,hK,E,hk,h1,h2,hJ.1,hJ.2,hd,ht⟩) ops.size (Array.replicate ops.size false) a _ E (by simp) (by
    unfold unl
    refine Nat.le_trans (List.length_filter_le _ _) (by simp)) (by
    intro j o hj hL
    exact absurd ((hre j).symm.trans hL) (by simp)) (by rw [hfun,ZlF _ _ _ (fun _=>rfl)]; exact hu.1) hs1 hs2 hd (by rw [hfun,ZlH _ _ _ (fun _=>rfl)]; exact ht.ext hu.2)
    (fun l hl=>.inl (hk.used l hl)) ⟨hb0,hu0⟩
  rw [hopsL] at key
  exact key
theorem Zfy:∀ (c:Code) (Q:Exit→List PV→Mem→Prop) (t:List PV) (m:Mem) (a:Act) (w:World),pwp P F.n0 c Q t m→Zgj F t m a w→c.wp P (Zvn F Q) a w
 | .skip,Q,t,m,a,w,h,hr=>wp_skip ⟨t,m,h,hr⟩
 | .seq x y,Q,t,m,a,w,h,hr=>by
  refine wp_seq (Code.wp_mono ?_ (Zfy x _ t m a w h hr))
  rintro e a w ⟨t,m,hq,hr⟩
  cases e with
  | normal=>exact Zfy y Q t m a w hq hr
  | _=>exact ⟨t,m,hq,hr⟩
 | .cond c x y,Q,t,m,a,w,h,hr=>by
  simp only [pwp] at h
  split at h
  ·rename_i b hb
   have hr':=hr
   obtain ⟨E,hk,_,_,_,_,hd,ht⟩:=hr'
   have hv:=Zjm ht c
   rw [hb] at hv
   have hv:=hv.v_inv.1
   cases b with
   | true=>exact wp_cond_true hv (Zfy x Q t m a w (by simpa using h) hr)
   | false=>exact wp_cond_false hv (Zfy y Q t m a w (by simpa using h) hr)
  ·exact h.elim
 | .block id c,Q,t,m,a,w,h,hr=>by
  refine wp_block (Code.wp_mono ?_ (Zfy c _ t m a w h hr))
  rintro e a w ⟨t,m,hq,hr⟩
  cases e with
  | exit i=>
   simp only [Exit.inBlock]
   simp only [Ziu] at hq
   split
   ·rename_i hi; rw [if_pos hi] at hq; exact ⟨t,m,hq,hr⟩
   ·rename_i hi; rw [if_neg hi] at hq; exact ⟨t,m,hq,hr⟩
  | _=>exact ⟨t,m,hq,hr⟩
 | .loop c,Q,t,m,a,w,h,hr=>by
  obtain ⟨I,n,t0,m0,hcut,hI,hround⟩:=h
  refine ZsH (fun n a w=>∃ t m,I n t m∧Zgj F t m a w) ?_ ⟨t0,m0,hI,Zgj.cuts hcut rfl hr⟩
  rintro n a w ⟨t,m,hI,hr⟩
  refine Code.wp_mono ?_ (Zfy c _ t m a w (hround n t m hI) hr)
  rintro e a w ⟨t,m,hq,hr⟩
  cases e with
  | normal=>
   obtain ⟨k,t',m',hlt,hcut,hI⟩:=hq
   exact ⟨k,hlt,t',m',hI,Zgj.cuts hcut rfl hr⟩
  | _=>exact ⟨t,m,hq,hr⟩
 | .exit i,Q,t,m,a,w,h,hr=>wp_exit ⟨t,m,h,hr⟩
 | .ret,Q,t,m,a,w,h,hr=>wp_ret ⟨t,m,h,hr⟩
 | .region id ops draw,Q,t,m,a,w,h,hr=>by
  rcases h with h | ⟨t1,m1,hc,h⟩
  ·exact ZmU h hr
  ·exact ZmU h (Zgj.cuts hc rfl hr)
 | .scope _,_,_,_,_,_,h,_=>h.elim
 | .label _,_,_,_,_,_,h,_=>h.elim
 | .goto _,_,_,_,_,_,h,_=>h.elim
 | .rangeFunc ..,_,_,_,_,_,h,_=>h.elim
 | .refuse _,_,_,_,_,_,h,_=>h.elim
def resP (P:Program):List ResultVar→List PV→Mem→(List PV→Prop)→Prop
 | [],_,_,K=>K []
 | .tmp i::rest,t,m,K=>resP P rest t m fun ps=>K (t.getD i .un::ps)
 | .cell i T::rest,t,m,K=>Zg1 P T (rdp m (t.getD i .un)) fun p=>resP P rest t m fun ps=>K (p::ps)
def oneP:List PV→PV
 | [p]=>p
 | ps=>.tu ps
def oneV:List Value→Value
 | [v]=>v
 | vs=>.tuple vs.toArray
theorem Zim (hk:Ok w0 O E w m) {t:List PV} {a:Act} (ht:RepT w E t a.tmps):∀ (rs:List ResultVar) (K:List PV→Prop),resP P rs t m K→
 ∃ ps vs,K ps∧(rs.mapM fun (r:ResultVar)=>(match r with
  | .tmp t=>pure (a.tmps.getD t undef)
  | .cell b T=>do loadVar T (← asAddr (a.tmps.getD b undef)):Sem Value)).run P w=.ok vs w∧vs.length=ps.length∧ps.length=rs.length∧∀ (j:Nat) (p:PV) (x:Value),ps[j]?=some p→vs[j]?=some x→Rep w E p x
 | [],K,h=>⟨[],[],h,by simp,rfl,rfl,by simp⟩
 | .tmp i::rest,K,h=>by
  obtain ⟨ps,vs,hK,hrun,hl,hl2,hr⟩:=Zim hk ht rest _ h
  refine ⟨_,a.tmps.getD i undef::vs,hK,?_,by simp [hl],by simp [hl2],fun j p x hp hx=>?_⟩
  ·simp only [List.mapM_cons,Sem.run_bind,Sem.run_pure,Result.andThen_ok]
   rw [hrun]
   rfl
  ·cases j with
   | zero=>
    simp only [List.getElem?_cons_zero,Option.some.injEq] at hp hx
    subst hp hx
    exact Zjm ht (.tmp i)
   | succ j=>exact hr j p x (by simpa using hp) (by simpa using hx)
 | .cell i T::rest,K,h=>by
  simp only [resP] at h
  cases hp:rdp m (t.getD i .un) with
  | none=>rw [hp] at h; unfold Zg1 at h; split at h <;> first | exact h.elim | simp_all
  | some cs=>
   rw [hp] at h
   obtain ⟨b,off,hx,hb,hc⟩:=ZrZ hk (Zjm ht (.tmp i)) hp
   obtain ⟨p,v,hK,hrunl,hrep⟩:=Zmy h hb hc
   obtain ⟨ps,vs,hK,hrun,hl,hl2,hr⟩:=Zim hk ht rest _ hK
   simp only [Act.eval] at hx
   refine ⟨_,v::vs,hK,?_,by simp [hl],by simp [hl2],fun j p x hp hx=>?_⟩
   ·have hasA:(asAddr (a.tmps.getD i undef)).run P w=.ok ⟨b,off,none⟩ w:=by rw [hx]; rfl
    simp only [List.mapM_cons,Sem.run_bind,hasA,Sem.run_pure,Result.andThen_ok,hrunl w (Up.rfl' w)]
    rw [hrun]
    rfl
   ·cases j with
    | zero=>
     simp only [List.getElem?_cons_zero,Option.some.injEq] at hp hx
     subst hp hx
     exact hrep
    | succ j=>exact hr j p x (by simpa using hp) (by simpa using hx)
def Fin (P:Program) (n0:Nat) (rs:Array ResultVar) (r:PV) (m1:Mem) (t:List PV) (m:Mem):Prop:=resP P rs.toList t m fun ps=>Cuts n0 [oneP ps] m [r] m1
theorem Zqb {t:List PV} {a:Act} (hr:Zgj F t m a w) {fn:Func} {r:PV} {m1:Mem} (h:Fin P F.n0 fn.results r m1 t m):
 ∃ v E',(results fn a.tmps).run P w=.ok v w∧Ok F.w0 F.O E' w m1∧(∀ b,F.S0 b→E'.S b)∧SBd F.S0 F.ω0 F.w0 F.O E'∧(∀ l B,l<F.n0→E'.β l=some B→F.β0 l=some B)∧Rep w E' r v:=by
 obtain ⟨E,hk,hs1,hs2,hb0,hu0,hd,ht⟩:=hr
 obtain ⟨ps,vs,hcut,hrun,hl,hl2,hr⟩:=Zim hk ht _ _ h
 have hres:(results fn a.tmps).run P w=.ok (oneV vs) w:=by
  unfold results
  rw [Array.mapM_eq_mapM_toList,Sem.run_bind,Sem.run_map]
  refine (congrArg (fun r=>(Result.andThen r fun (a:List Value) w'=>Result.ok a.toArray w').andThen _) hrun).trans ?_
  simp only [Result.andThen_ok,Sem.run_pure]
  match vs with
  | []=>simp [oneV]
  | [v]=>simp [oneV]
  | _::_::_=>simp [oneV]
 have hv0:Rep w E (oneP ps) (oneV vs):=by
  clear hrun hres hcut
  match vs,ps,hl with
  | [v],[p],_=>exact hr 0 p v rfl rfl
  | [],[],_=>exact .tu _ _ (by simp) (by simp)
  | v::v'::vs,p::p'::ps,hl=>exact .tu _ _ (by simpa using hl) fun j q x hq hx=>hr j q x hq (by simpa using hx)
 generalize oneV vs=v0 at hres hv0
 have h0:Zgj F [oneP ps] m { tmps:=#[v0],defers:=[] } w:=by
  refine ⟨E,hk,hs1,hs2,hb0,hu0,rfl,rfl,fun i p hp=>?_⟩
  cases i with
  | zero=>
   obtain rfl:oneP ps=p:=by simpa using hp
   exact hv0
  | succ i=>simp at hp
 obtain ⟨E',k1,k2,k3,k4,_,_,k5⟩:=Zgj.cuts hcut rfl h0
 exact ⟨_,E',hres,k1,k2,k3,k4,k5.2 0 r rfl⟩
theorem Zd {f:FuncId} {fn:Func} {c:Code} (hf:P.funcs[f]?=some fn) (hb:fn.body=some c) {n:Nat} (hn:fn.ntmps=n) {rs:Array ResultVar} (hrs:fn.results=rs) {args:List PV} {m0:Mem} {r:PV} {m1:Mem}
 (h:∀ Q:Exit→List PV→Mem→Prop,(∀ t m,Fin P m0.length rs r m1 t m→Q .ret t m)→(∀ t m,Fin P m0.length rs r m1 t m→Q .normal t m)→pwp P m0.length c Q (args++List.replicate (n-args.length) .ud) m0):Zd1 P f args m0 r m1:=by
 subst hn hrs
 intro S β w vs ω hk hl hargs
 let F:Fr:=⟨w,own0 β,β,m0.length,S,ω⟩
 have hr0:Zgj F (args++List.replicate (fn.ntmps-args.length) .ud) m0 { tmps:=vs++Array.replicate (fn.ntmps-vs.size) undef,defers:=[] } w:=by
  refine ⟨E1 S β m0.length ω,hk,fun b hb=>hb,⟨fun b hb=>.inl hb,fun b q hb=>.inl hb⟩,fun l B hl hB=>hB,fun l hl=>hl,rfl,by simp [hl],fun i p hp=>?_⟩
  rcases Nat.lt_or_ge i args.length with hi | hi
  ·rw [List.getElem?_append_left hi] at hp
   obtain ⟨x,hx,hr⟩:=hargs i p hp
   have hiv:i<vs.size:=by rw [hl]; exact hi
   have e:(vs++Array.replicate (fn.ntmps-vs.size) undef).getD i undef=x:=by
    rw [Array.getD_eq_getD_getElem?,Array.getElem?_append_left hiv,hx]; rfl
   rw [e]; exact hr
  ·rw [List.getElem?_append_right hi] at hp
   have hlt:=(List.getElem?_eq_some_iff.1 hp).1
   rw [List.length_replicate] at hlt
   rw [List.getElem?_replicate,if_pos hlt] at hp
   cases hp
   have e:(vs++Array.replicate (fn.ntmps-vs.size) undef).getD i undef=undef:=by
    rw [Array.getD_eq_getD_getElem?,Array.getElem?_append_right (by omega)]
    simp only [Array.getElem?_replicate]
    split <;> rfl
   rw [e]; exact .c .ud
 refine calls_of_wp hf hb (Code.wp_mono ?_ (Zfy (F:=F) c (fun e t m=>(e=.ret∨e=.normal)∧Fin P m0.length fn.results r m1 t m) _ _ _ w (h _ (fun t m h=>⟨.inl rfl,h⟩) (fun t m h=>⟨.inr rfl,h⟩)) hr0))
 rintro e a w' ⟨t,m,⟨he,hfin⟩,hr⟩
 have hd:a.defers=[]:=by obtain ⟨_,_,_,_,_,_,hd,_⟩:=hr; exact hd
 obtain ⟨v,E',hrun,k1,k2,k3,k4,k5⟩:=Zqb hr hfin
 have key:bodyPost P fn (fun e w'=>∃ v E',e=.returned v∧Ok w (own0 β) E' w' m1∧(∀ b,S b→E'.S b)∧(∀ b,E'.S b→S b∨w.heap.size≤b∨own0 β b)∧((∀ l B,l<m0.length→E'.β l=some B→β l=some B)∧∀ b q,E'.ω b q→ω b q∨w.heap.size≤b∨own0 β b)∧Rep w' E' r v) .ret a w':=
  ⟨hd,v,hrun,v,E',rfl,k1,k2,k3.1,⟨k4,k3.2⟩,k5⟩
 rcases he with rfl | rfl
 ·exact key
 ·exact key
end
theorem nrfl {α:Sort _} {a b:α} (h:a=b):a=b:=h
abbrev vi (n:Int):PV:=.v (.int .i64 n)
abbrev v8 (n:Int):PV:=.v (.int .u8 n)
abbrev vb (b:Bool):PV:=.v (.bool b)
abbrev vs (s:ByteArray):PV:=.v (.string s)
abbrev w64 (n:Int):Int:=IntKind.i64.wrap n
/-! ### The other side: what the code says,as_ a function; an answer is none where Go would panic. -/
def chk (b:Bool):Option Unit:=cond b (some ()) none
def getI {α:Type} (xs:List α) (i:Int):Option α:=if 0≤i then xs[i.toNat]? else none
def getB (s:ByteArray) (i:Int):Option Int:=if 0≤i∧i<s.size then some (Zfm s i.toNat) else none
def Z9 (n bytes:Nat):Bool:=decide (n≤1099511627776∧n*bytes≤140737488355328)
def slOk (l h n:Int):Bool:=decide (0≤l∧l≤h∧h≤n)
def subL {α:Type} (xs:List α) (l h:Int):List α:=(xs.drop l.toNat).take (h.toNat-l.toNat)
def subS (s:ByteArray) (l h:Int):ByteArray:=s.extract l.toNat h.toNat
abbrev Zu {σ ο δ:Type} (f:σ→δ) (g:ο→δ):σ ⊕ ο→δ
 | .inl a=>f a
 | .inr b=>g b
def Zj {σ ο:Type} (body:σ→Option (σ ⊕ ο)):Nat→σ→Option ο
 | 0,_=>none
 | n+1,s=>(body s).bind (Zu (Zj body n) some)
def NN:Nat:=1152921504606846976
section
variable {α β γ δ σ ο:Type}
theorem H0 {x:Option α} {r:α} (h:x=some r):x.bind some=some r:=by rw [h]; rfl
theorem Hc1 {b:Bool} {A B:Option α} {K:α→Option β} {r:β} (h:(cond b A B).bind K=some r) (hb:b=true):A.bind K=some r:=by subst hb; exact h
theorem Hc2 {b:Bool} {A B:Option α} {K:α→Option β} {r:β} (h:(cond b A B).bind K=some r) (hb:b=false):B.bind K=some r:=by subst hb; exact h
theorem Zi8 {x:Option α} {F:α→Option β} {K:β→Option γ} {r:γ} (h:(x.bind F).bind K=some r):∃ a,x=some a∧(F a).bind K=some r:=by
 cases x with
 | none=>cases h
 | some a=>exact ⟨a,rfl,h⟩
theorem Hchk {b:Bool} {F:Unit→Option β} {K:β→Option γ} {r:γ} (h:((chk b).bind F).bind K=some r):b=true∧(F ()).bind K=some r:=by
 cases b with
 | false=>cases h
 | true=>exact ⟨rfl,h⟩
theorem Hlp {x:Option ο} {G:ο→Option β} {K:β→Option γ} {r:γ} (h:(x.bind G).bind K=some r):x.bind (fun o=>(G o).bind K)=some r:=by
 cases x with
 | none=>cases h
 | some a=>exact h
theorem Hrd {body:σ→Option (σ ⊕ ο)} {n:Nat} {s:σ} {K:ο→Option β} {r:β} (h:(Zj body (n+1) s).bind K=some r):(body s).bind (Zu (fun s'=>(Zj body n s').bind K) K)=some r:=by
 unfold Zj at h
 cases hb:body s with
 | none=>rw [hb] at h; cases h
 | some o=>
  rw [hb] at h
  cases o with
  | inl s'=>exact h
  | inr o=>exact h
theorem Hno {body:σ→Option (σ ⊕ ο)} {s:σ} {K:ο→Option β} {r:β} (h:(Zj body 0 s).bind K=some r):False:=by cases h
theorem Hret {a r:α} (h:some a=some r):a=r:=Option.some.inj h
end
class CT (P:Program) {R:Type} (x:Option R) where
 f:FuncId
 args:List PV
 m0:Mem
 res:R→PV
 mem:R→Mem
 ok:∀ {r:R},x=some r→Zd1 P f args m0 (res r) (mem r)
class Z1 {σ ο:Type} (body:σ→Option (σ ⊕ ο)) where
 T:σ→List PV
 M:σ→Mem
class ZaA {α:Type} (f:α→List PV):Prop where
 h:∀ x,∀ q∈f x,isC q=true
class ZgZ {α:Type} (f:α→List PV):Prop where
 h:∀ x,∀ q∈f x,isF q=true
/-! ### The walk's rewriting. -/
def U:Nat→List PV→List PV
 | 0,l=>l
 | n+1,l=>.un::U n l
theorem U_z (l:List PV):U 0 l=l:=nrfl rfl
theorem U_s (n:Nat) (l:List PV):U (n+1) l=.un::U n l:=nrfl rfl
theorem ZxK (a b:PV) (as_:List PV):(a::as_).set 0 b=b::as_:=nrfl rfl
theorem ZxJ (a b:PV) (as_:List PV) (n:Nat):(a::as_).set (n+1) b=a::as_.set n b:=nrfl rfl
theorem Zq1 (a d:PV) (as_:List PV):(a::as_).getD 0 d=a:=nrfl rfl
theorem Zq0 (a d:PV) (as_:List PV) (n:Nat):(a::as_).getD (n+1) d=as_.getD n d:=nrfl rfl
theorem ZxI {α:Type} (a:α) (as_:List α):(a::as_)[0]?=some a:=nrfl rfl
theorem ZxH {α:Type} (a:α) (as_:List α) (n:Nat):(a::as_)[n+1]?=as_[n]?:=nrfl rfl
theorem ZxG {α:Type} (as_:List α) (n:Nat):as_.toArray[n]?=as_[n]?:=nrfl (by simp)
section
variable {P:Program} {ops:Array Oper} {K:List PV→Mem→Prop} {KD:List LE→List PV→Mem→Prop} {rest:List Oper} {t:List PV} {m:Mem} {d:Option Tmp} {o:Op} {ty:TypeId} {pos:String} {af:Array Edge} {j:Nat} {b:Bool} {KA:PV→Mem→Prop} {KR:PV→Prop} {io:Bool} {wd ν base i:Nat} {g:List LE} {fl:List Nat}
def nxt (P:Program) (ops:Array Oper) (K:List PV→Mem→Prop) (rest:List Oper) (t:List PV) (d:Option Tmp) (p:PV) (m:Mem):Prop:=pops P ops K rest (putP t d p) m
def atM (K:PV→Mem→Prop) (m:Mem) (p:PV):Prop:=K p m
def rgo (P:Program) (ops:Array Oper) (K:List PV→Mem→Prop) (rest:List Oper) (d:Option Tmp) (o:Op) (m:Mem) (t:List PV):Prop:=popA P true 16 m.length o t m (nxt P ops K rest t d)
def pgo (P:Program) (ops:Array Oper) (K:List PV→Mem→Prop) (rest:List Oper) (d:Option Tmp) (m:Mem) (t:List PV):Prop:=pops P ops K rest (putP t d .ud) m
def Zh8 (c:Bool) (y n:List PV→Prop) (t:List PV) (i:Nat):Prop:=gate c (y (t.set i (.v (.bool true)))) (n (t.set i (.v (.bool false))))
def gdV (p:PV) (i:Nat) (t:List PV) (b:Bool) (run pass:List PV→Prop):Prop:=
 match p,b with
 | .v (.bool c),true=>Zh8 c run pass t i
 | .v (.bool c),false=>Zh8 c pass run t i
 | .ud,_=>pass t
 | _,_=>False
def gd (d:Option Tmp) (t:List PV) (b:Bool) (run pass:List PV→Prop):Prop:=
 match d with
 | none=>pass t
 | some d=>gdV (t.getD d .un) d t b run pass
theorem ZnK {p:PV}:nxt P ops K rest t d p m=pops P ops K rest (putP t d p) m:=nrfl rfl
theorem Znh {p:PV}:atM KA m p=KA p m:=nrfl rfl
theorem ZvU:rgo P ops K rest d o m t=popA P true 16 m.length o t m (nxt P ops K rest t d):=nrfl rfl
theorem ZvL:pgo P ops K rest d m t=pops P ops K rest (putP t d .ud) m:=nrfl rfl
theorem Zs9 {y n:List PV→Prop} {i:Nat}:Zh8 true y n t i=y (t.set i (.v (.bool true))):=by simp [Zh8,gate]
theorem Zs8 {y n:List PV→Prop} {i:Nat}:Zh8 false y n t i=n (t.set i (.v (.bool false))):=by simp [Zh8,gate]
theorem Zjq {c:Bool} {y n:List PV→Prop} {i:Nat} (h1:c=true→y (t.set i (.v (.bool true)))) (h2:c=false→n (t.set i (.v (.bool false)))):Zh8 c y n t i:=⟨h1,h2⟩
theorem ZtC:pops P ops K [] t m=K t m:=nrfl rfl
theorem ZvO:pops P ops K (⟨d,o,ty,pos,af,none⟩::rest) t m=popA P true 16 m.length o t m (nxt P ops K rest t d):=nrfl rfl
theorem ZvN:pops P ops K (⟨d,o,ty,pos,af,some (j,b)⟩::rest) t m=gd ((ops[j]?).bind (·.dst)) t b (rgo P ops K rest d o m) (pgo P ops K rest d m):=by
 cases h:(ops[j]?).bind (·.dst) with
 | none=>simp only [pops,h,gd,pgo]
 | some d'=>
  simp only [pops,h,gd]
  generalize t.getD d' .un=p
  cases p with
  | v x=>cases x <;> cases b <;> rfl
  | _=>cases b <;> rfl
/-! Where the order is drawn. -/
def nxd (P:Program) (wd base:Nat) (fl:List Nat) (ops:Array Oper) (K:List LE→List PV→Mem→Prop) (i:Nat) (rest:List Oper) (g:List LE) (t:List PV) (d:Option Tmp) (p:PV) (m:Mem):Prop:=Zee P wd base fl ops K i rest g (putP t d p) m
def rgd (P:Program) (wd base:Nat) (fl:List Nat) (ops:Array Oper) (K:List LE→List PV→Mem→Prop) (i:Nat) (rest:List Oper) (g:List LE) (oo:Oper) (m:Mem) (t:List PV):Prop:=
 popA P false wd (base+wd*i) oo.op t m (nxd P wd base fl ops K (i+1) rest (g++[leOf ops oo t wd (base+wd*i)]) t oo.dst)
def pgd (P:Program) (wd base:Nat) (fl:List Nat) (ops:Array Oper) (K:List LE→List PV→Mem→Prop) (i:Nat) (rest:List Oper) (g:List LE) (oo:Oper) (m:Mem) (t:List PV):Prop:=Zee P wd base fl ops K (i+1) rest (g++[le0 ops oo]) (putP t oo.dst .ud) m
def nxe (P:Program) (wd base:Nat) (fl:List Nat) (ops:Array Oper) (K:List LE→List PV→Mem→Prop) (i:Nat) (rest:List Oper) (g:List LE) (oo:Oper) (ν:Nat) (t:List PV) (ρ:List Nat) (p:PV) (m:Mem):Prop:=Zee P wd base fl ops K i rest (g++[leIO ops oo ρ wd ν]) (putP t oo.dst p) m
def rge (P:Program) (wd base:Nat) (fl:List Nat) (ops:Array Oper) (K:List LE→List PV→Mem→Prop) (i:Nat) (rest:List Oper) (g:List LE) (oo:Oper) (m:Mem) (t:List PV):Prop:=
 if ioAt fl i=true then popI P wd (base+wd*i) oo.op t m (nxe P wd base fl ops K (i+1) rest g oo (base+wd*i) t) else rgd P wd base fl ops K i rest g oo m t
theorem ZnJ {oo:Oper} {ν:Nat} {ρ:List Nat} {p:PV}:nxe P wd base fl ops KD i rest g oo ν t ρ p m=Zee P wd base fl ops KD i rest (g++[leIO ops oo ρ wd ν]) (putP t oo.dst p) m:=nrfl rfl
theorem ZvT {oo:Oper}:rge P wd base fl ops KD i rest g oo m t=if ioAt fl i=true then popI P wd (base+wd*i) oo.op t m (nxe P wd base fl ops KD (i+1) rest g oo (base+wd*i) t) else rgd P wd base fl ops KD i rest g oo m t:=nrfl rfl
theorem Ztd {i:Nat}:ioAt [] i=false:=nrfl rfl
theorem Zrc {a i:Nat} {l:List Nat}:ioAt (a::l) i=if a=i then true else ioAt l i:=nrfl rfl
theorem ZrI {wd ν:Nat} {f:FuncId} {xs:List Operand} {Ts:Array TypeId} {K:List Nat→PV→Mem→Prop}:popI P wd ν (.call ⟨.value (.func f),xs.toArray,Ts⟩) t m K=(isFn P f∧pIO P wd ν f (xs.map (evP t)) m K):=nrfl rfl
theorem ZnI {p:PV}:nxd P wd base fl ops KD i rest g t d p m=Zee P wd base fl ops KD i rest g (putP t d p) m:=nrfl rfl
theorem ZrJ:Zee P wd base fl ops KD i [] g t m=KD g t m:=by unfold Zee; rfl
theorem ZtB:Zee P wd base fl ops KD i (⟨d,o,ty,pos,af,none⟩::rest) g t m=rge P wd base fl ops KD i rest g ⟨d,o,ty,pos,af,none⟩ m t:=by rw [Zee]; rfl
theorem ZtA:Zee P wd base fl ops KD i (⟨d,o,ty,pos,af,some (j,b)⟩::rest) g t m=gd ((ops[j]?).bind (·.dst)) t b (rgd P wd base fl ops KD i rest g ⟨d,o,ty,pos,af,some (j,b)⟩ m) (pgd P wd base fl ops KD i rest g ⟨d,o,ty,pos,af,some (j,b)⟩ m):=by
 rw [Zee]
 cases h:(ops[j]?).bind (·.dst) with
 | none=>simp only [h,gd,pgd]
 | some d'=>
  simp only [h,gd]
  generalize t.getD d' .un=p
  cases p with
  | v x=>cases x <;> cases b <;> rfl
  | _=>cases b <;> rfl
theorem ZvS {oo:Oper}:rgd P wd base fl ops KD i rest g oo m t=popA P false wd (base+wd*i) oo.op t m (nxd P wd base fl ops KD (i+1) rest (g++[leOf ops oo t wd (base+wd*i)]) t oo.dst):=nrfl rfl
theorem ZvK {oo:Oper}:pgd P wd base fl ops KD i rest g oo m t=Zee P wd base fl ops KD (i+1) rest (g++[le0 ops oo]) (putP t oo.dst .ud) m:=nrfl rfl
theorem Zvc {i:Nat} {run pass:List PV→Prop}:gd (some i) t b run pass=gdV (t.getD i .un) i t b run pass:=nrfl rfl
theorem Zvb {run pass:List PV→Prop}:gd none t b run pass=pass t:=nrfl rfl
theorem ZwD {i:Nat} {c:Bool} {run pass:List PV→Prop}:gdV (.v (.bool c)) i t true run pass=Zh8 c run pass t i:=nrfl rfl
theorem ZwC {i:Nat} {c:Bool} {run pass:List PV→Prop}:gdV (.v (.bool c)) i t false run pass=Zh8 c pass run t i:=nrfl rfl
theorem ZwE {i:Nat} {run pass:List PV→Prop}:gdV .ud i t b run pass=pass t:=by cases b <;> rfl
theorem ZrP {i:Nat} {p:PV}:putP t (some i) p=t.set i p:=nrfl rfl
theorem ZrO {p:PV}:putP t none p=t:=nrfl rfl
theorem Znv {i:Nat}:evP t (.tmp i)=t.getD i .un:=nrfl rfl
theorem Zu7 {k:IntKind} {n:Int}:evP t (.const (.int k n))=.v (.int k n):=nrfl rfl
theorem Zk5 {c:Bool}:evP t (.const (.bool c))=.v (.bool c):=nrfl rfl
theorem Zu9 {c:ByteArray}:evP t (.const (.string c))=.v (.string c):=nrfl rfl
theorem Zwz {a:Option Addr} {n c:Nat}:evP t (.const (.slice a n c))=.v (.slice a n c):=nrfl rfl
theorem Zu8 {a:Option Addr}:evP t (.const (.pointer a))=.v (.pointer a):=nrfl rfl
theorem Zs3 {f:FuncId}:evP t (.func f)=.v (.func (.func f) #[] #[]):=nrfl rfl
theorem ZrF {x:Operand}:popA P io wd ν (.move x) t m KA=KA (evP t x) m:=nrfl rfl
theorem ZnV {x:Operand}:popA P io wd ν (.assign x) t m KA=KA (evP t x) m:=nrfl rfl
def ZpK (c x y:PV) (K:PV→Prop):Prop:=match c with
 | .v (.bool b)=>K (if b then x else y)
 | _=>False
theorem ZvC {x y:PV}:ZpK (.v (.bool true)) x y KR=KR x:=nrfl rfl
theorem ZvB {x y:PV}:ZpK (.v (.bool false)) x y KR=KR y:=nrfl rfl
theorem ZrG {c x y:Operand}:popA P io wd ν (.pick c x y) t m KA=ZpK (evP t c) (evP t x) (evP t y) (atM KA m):=nrfl rfl
theorem ZrE {T:TypeId} {x:Operand}:popA P io wd ν (.load T x) t m KA=Zg1 P T (rdp m (evP t x)) (atM KA m):=nrfl rfl
theorem Zlq {x:Operand}:popA P io wd ν (.nilCheck x) t m KA=pNil m (evP t x) (atM KA m):=nrfl rfl
theorem ZpR {op:BinOp} {T T':TypeId} {x y:Operand}:popA P io wd ν (.binOp op T x y T') t m KA=pBin P op T (evP t x) (evP t y) (atM KA m):=nrfl rfl
theorem ZrH {op:UnOp} {T:TypeId} {x:Operand}:popA P io wd ν (.unOp op T x) t m KA=pUn op (evP t x) (atM KA m):=nrfl rfl
theorem ZmI {T T':TypeId} {x:Operand}:popA P io wd ν (.convert T T' x) t m KA=ZgC P m T T' (evP t x) (atM KA m):=nrfl rfl
theorem ZpW {T:TypeId} {x:Operand} {lo hi:Option Operand}:popA P io wd ν (.slice T x lo hi none) t m KA=ZdK P m T (evP t x) (lo.map (evP t)) (hi.map (evP t)) (atM KA m):=nrfl rfl
theorem Zkj {T:TypeId} {x:Operand} {f:Nat}:popA P io wd ν (.fieldAddr T x f) t m KA=ZcV P m T (evP t x) f (atM KA m):=nrfl rfl
theorem ZpT {T:TypeId} {x:Operand} {f:Nat}:popA P io wd ν (.field T x f) t m KA=ZiC P T (evP t x) f (atM KA m):=nrfl rfl
theorem Zkk {T:TypeId} {x y:Operand}:popA P io wd ν (.indexAddr T x y) t m KA=ZY P m T (evP t x) (evP t y) (atM KA m):=nrfl rfl
theorem ZpU {T:TypeId} {x y:Operand}:popA P io wd ν (.index T x y) t m KA=ZgD P T (evP t x) (evP t y) (atM KA m):=nrfl rfl
theorem ZmJ {x:Operand} {i:Nat}:popA P io wd ν (.extract x i) t m KA=pExt i (evP t x) (atM KA m):=nrfl rfl
theorem ZpS {T:TypeId} {ps:List (Nat × Operand)}:popA P io wd ν (.build T ps.toArray) t m KA=ZiB P T (ps.map fun q=>(q.1,evP t q.2)) (atM KA m):=nrfl rfl
theorem Zlp {f:FuncId} {cs:List Operand}:popA P io wd ν (.makeFunc (.func f) #[] cs.toArray) t m KA=KA (.fn f (cs.map (evP t))) m:=nrfl rfl
theorem Ztw {x:Operand} {T:TypeId}:popA P io wd ν (.call ⟨.builtin .len,#[x],#[T]⟩) t m KA=pLen P m T (evP t x) (atM KA m):=nrfl rfl
theorem Zty {x y:Operand} {T T':TypeId}:popA P io wd ν (.call ⟨.builtin .min,#[x,y],#[T,T']⟩) t m KA=Zfx false [evP t x,evP t y] (atM KA m):=nrfl rfl
theorem Ztx {x y:Operand} {T T':TypeId}:popA P io wd ν (.call ⟨.builtin .max,#[x,y],#[T,T']⟩) t m KA=Zfx true [evP t x,evP t y] (atM KA m):=nrfl rfl
theorem ZpQ {T:TypeId}:popA P io wd ν (.alloc T) t m KA=pBox ν m T (pz P T) KA:=nrfl rfl
theorem Ztu {T:TypeId} {x:Operand}:popA P io wd ν (.box T x) t m KA=pBox ν m T (pc (evP t x)) KA:=nrfl rfl
theorem ZjR {T:TypeId} {n:Nat} {ps:List (Nat × Operand)}:popA P io wd ν (.buildSlice T n ps.toArray) t m KA=ZdJ P ν m T n (ps.map fun q=>(q.1,evP t q.2)) KA:=nrfl rfl
theorem Zkl {T:TypeId} {x y:Operand}:popA P io wd ν (.makeSlice T x y) t m KA=ZjL P ν m T (evP t x) (evP t y) KA:=nrfl rfl
theorem ZpX {T:TypeId} {x y:Operand}:popA P io wd ν (.store T x y) t m KA=ZiD P m T (evP t x) (evP t y) KA:=nrfl rfl
theorem ZnU {x y:Operand} {T:TypeId}:popA P io wd ν (.call ⟨.builtin .append,#[x,y],#[T,T]⟩) t m KA=ZcU P ν m T (evP t x) (evP t y) KA:=by
 have:popA P io wd ν (.call ⟨.builtin .append,#[x,y],#[T,T]⟩) t m KA=(T=T∧ZcU P ν m T (evP t x) (evP t y) KA):=rfl
 rw [this]; simp
theorem ZrD {f:FuncId} {xs:List Operand} {Ts:Array TypeId}:popA P io wd ν (.call ⟨.value (.func f),xs.toArray,Ts⟩) t m KA=(isFn P f∧ZfX P io wd ν f (xs.map (evP t)) m KA):=nrfl rfl
def pDyn (P:Program) (io:Bool) (wd ν:Nat) (p:PV) (ps:List PV) (m:Mem) (K:PV→Mem→Prop):Prop:=match p with
 | .fn f cs=>(∀ c∈cs,isR c=true)∧isFn P f∧ZfX P io wd ν f (ps++cs) m K
 | _=>False
theorem Ztv {i:Nat} {xs:List Operand} {Ts:Array TypeId}:popA P io wd ν (.call ⟨.value (.tmp i),xs.toArray,Ts⟩) t m KA=pDyn P io wd ν (t.getD i .un) (xs.map (evP t)) m KA:=nrfl rfl
theorem Zru {v:Value}:optK (some v) KR=KR (.v v):=nrfl rfl
theorem ZwS {l i o:Nat}:rdp m (.be l i o)=((look m l).bind fun mb=>(mb.es[i]?).map (·.drop o)):=by
 unfold look rdp
 cases h:m[l]? with
 | none=>simp [h]
 | some x=>cases x <;> simp [h]
theorem ZjF {x:Option MB} {m:Mem}:look (x::m) 0=x:=by unfold look; cases x <;> rfl
theorem ZjE {x:Option MB} {m:Mem} {n:Nat}:look (x::m) (n+1)=look m n:=nrfl rfl
theorem ZwL {x:Option MB} {m:Mem} {mb:MB}:mput (x::m) 0 mb=some mb::m:=by simp [mput]
theorem ZwK {x:Option MB} {m:Mem} {n:Nat} {mb:MB}:mput (x::m) (n+1) mb=x::mput m n mb:=by
 unfold mput
 rw [show n+1+1-(x::m).length=n+1-m.length by simp]
 rfl
theorem Zvo {mb:MB}:mput [] 0 mb=[some mb]:=nrfl rfl
theorem Zvp {n:Nat} {mb:MB}:mput [] (n+1) mb=none::mput [] n mb:=by
 unfold mput
 simp [List.replicate_succ]
theorem ZwN {α:Type} (a b:α) (as_:List α):(a::as_).set 0 b=b::as_:=nrfl rfl
theorem ZwM {α:Type} (a b:α) (as_:List α) (n:Nat):(a::as_).set (n+1) b=a::as_.set n b:=nrfl rfl
theorem Zw5 (c q:PV) (cs qs:List PV):setR (c::cs) 0 (q::qs)=q::setR cs 0 qs:=by simp [setR]
theorem Zw3 (cs:List PV):setR cs 0 []=cs:=by simp [setR]
theorem Zw4 (c:PV) (cs qs:List PV) (n:Nat):setR (c::cs) (n+1) qs=c::setR cs n qs:=by
 simp only [setR,List.take_succ_cons,List.cons_append]
 rw [show n+1+qs.length=(n+qs.length)+1 by omega,List.drop_succ_cons]
theorem ZwR {α:Type} (bs:List α):List.append [] bs=bs:=nrfl rfl
theorem ZwQ {α:Type} (a:α) (as_ bs:List α):List.append (a::as_) bs=a::List.append as_ bs:=nrfl rfl
theorem Zsl {ν i:Nat}:sig [] ν i=ν+i:=by simp [sig]
theorem Zsn {a ν:Nat} {ρ:List Nat}:sig (a::ρ) ν 0=a:=nrfl rfl
theorem Zsm {a ν i:Nat} {ρ:List Nat}:sig (a::ρ) ν (i+1)=sig ρ ν i:=by
 unfold sig
 simp only [List.length_cons,Nat.add_lt_add_iff_right,List.getD_cons_succ,Nat.add_sub_add_right]
theorem ZmT {α:Type} {f:α→List PV} [hf:ZaA f] {σ:Nat→Nat} {xs:List α}:Zg3 σ (xs.map f)=xs.map f:=by
 unfold Zg3
 rw [List.map_map]
 apply List.map_congr_left
 intro x _
 have h1:=hf.h x
 show (f x).map (renC σ)=f x
 generalize f x=cs at h1
 induction cs with
 | nil=>rfl
 | cons c cs ih=>
  rw [List.map_cons,ih fun q hq=>h1 q (List.mem_cons_of_mem _ hq)]
  congr 1
  have hc:=h1 c List.mem_cons_self
  have k1:∀ {d:PV},isC1 d=true→ren1 σ d=d:=fun {d} hd=>by cases d <;> simp_all [isC1,ren1]
  cases c with
  | fn g ds=>
   simp only [isC,List.all_eq_true] at hc
   simp only [renC]
   congr 1
   have e:ds.map (ren1 σ)=ds.map id:=List.map_congr_left fun d hd=>k1 (hc d hd)
   rw [e,List.map_id]
  | _=>simp_all [isC,isC1,renC,ren1]
theorem Zr0 {σ:Nat→Nat}:Zg3 σ []=[]:=nrfl rfl
theorem Zp1 {σ:Nat→Nat} {c:List PV} {cs:List (List PV)}:Zg3 σ (c::cs)=c.map (renC σ)::Zg3 σ cs:=nrfl rfl
theorem Zi4 {α:Type} {f:α→List PV} [hf:ZaA f] {xs:List α}:rowC (xs.map f):=by
 intro cs hcs q hq
 obtain ⟨x,_,rfl⟩:=List.mem_map.1 hcs
 exact hf.h x q hq
theorem Zgb {α:Type} {f:α→List PV} [hf:ZaA f] {xs:List α}:(∀ cs∈xs.map f,∀ q∈cs,isC q=true)=True:=by
 simp only [eq_iff_iff,iff_true]; exact Zi4
theorem ZgP {c:PV} (h:isC c=true):ZaL false c:=by
 cases c with
 | fn f cs=>
  simp only [isC,List.all_eq_true] at h
  exact ⟨rfl,fun d hd=>by have:=h d hd; cases d <;> simp_all [isC1,isR]⟩
 | _=>intro h; cases h
theorem ZoM {c:PV} (h:isF c=true):ZaL true c:=by
 cases c <;> first | exact fun _=>h | simp [isF] at h
theorem Zq2 {α:Type} {f:α→List PV} [hf:ZaA f] {xs:List α}:(∀ cs∈xs.map f,∀ p∈cs,ZaL false p)=True:=by
 simp only [eq_iff_iff,iff_true]
 intro cs hcs q hq
 obtain ⟨x,_,rfl⟩:=List.mem_map.1 hcs
 exact ZgP (hf.h x q hq)
theorem Zq3 {α:Type} {f:α→List PV} [hf:ZgZ f] {xs:List α}:(∀ cs∈xs.map f,∀ p∈cs,ZaL true p)=True:=by
 simp only [eq_iff_iff,iff_true]
 intro cs hcs q hq
 obtain ⟨x,_,rfl⟩:=List.mem_map.1 hcs
 exact ZoM (hf.h x q hq)
theorem Zfq {l:Nat} {A:MB→Prop}:live m l A=(match look m l with
 | some mb=>A mb
 | none=>False):=Zez A
theorem ZfI {α β:Type} (f:α→β) (xs:List α) (n:Nat):(xs.map f).drop n=(xs.drop n).map f:=List.map_drop.symm
theorem ZfN {α β:Type} (f:α→β) (xs:List α) (n:Nat):(xs.map f).take n=(xs.take n).map f:=List.map_take.symm
theorem Zwh {α β:Type} (f:α→β) (xs ys:List α):xs.map f++ys.map f=(xs++ys).map f:=(List.map_append).symm
end
section
variable {P:Program} {n0:Nat} {Q:Exit→List PV→Mem→Prop} {t t':List PV} {m m':Mem} {K:List PV→Mem→Prop} {KR:PV→Prop} {KA:PV→Mem→Prop}
theorem ZdO:ZgH K Q .normal t m=K t m:=rfl
theorem Ziq {i:Nat}:ZgH K Q (.exit i) t m=Q (.exit i) t m:=rfl
theorem Zj4:ZgH K Q .ret t m=Q .ret t m:=rfl
theorem Zc1 {id:Nat}:Ziu id Q .normal t m=Q .normal t m:=rfl
theorem Zhg {id i:Nat}:Ziu id Q (.exit i) t m=if i=id then Q .normal t m else Q (.exit i) t m:=rfl
theorem Zh0 {id:Nat}:Ziu id Q .ret t m=Q .ret t m:=rfl
theorem ZrW {x y:Code} (h:∀ K:List PV→Mem→Prop,(∀ t m,pwp P n0 y Q t m→K t m)→pwp P n0 x (ZgH K Q) t m):pwp P n0 (.seq x y) Q t m:=
 h (fun t m=>pwp P n0 y Q t m) (fun _ _ h=>h)
theorem ZmP {id:Nat} {c:Code} (h:pwp P n0 c (Ziu id Q) t m):pwp P n0 (.block id c) Q t m:=h
def Zqy (p:PV) (A B:Prop):Prop:=match p with
 | .v (.bool b)=>(b=true→A)∧(b=false→B)
 | _=>False
theorem ZmQ {c:Operand} {x y:Code} (h:Zqy (evP t c) (pwp P n0 x Q t m) (pwp P n0 y Q t m)):pwp P n0 (.cond c x y) Q t m:=by
 unfold Zqy at h
 split at h
 ·rename_i b hb
  simp only [pwp,hb]
  cases b with
  | true=>simpa using h.1 rfl
  | false=>simpa using h.2 rfl
 ·exact h.elim
theorem Zoo {A B:Prop} (h:A):Zqy (.v (.bool true)) A B:=⟨fun _=>h,fun h=>by cases h⟩
theorem Zon {A B:Prop} (h:B):Zqy (.v (.bool false)) A B:=⟨fun h=>(by cases h),fun _=>h⟩
theorem Zjg {b:Bool} {A B:Prop} (h1:b=true→A) (h2:b=false→B):Zqy (.v (.bool b)) A B:=⟨h1,h2⟩
theorem Zpa (h:Q .normal t m):pwp P n0 .skip Q t m:=h
theorem Zo8 {i:Nat} (h:Q (.exit i) t m):pwp P n0 (.exit i) Q t m:=h
theorem ZrV (h:Q .ret t m):pwp P n0 .ret Q t m:=h
theorem ZkK {id:Nat} {ops:List Oper} (h:pops P ops.toArray (Q .normal) ops t m):pwp P n0 (.region id ops.toArray false) Q t m:=.inl h
def endD (ops:List Oper) (K:List PV→Mem→Prop) (g:List LE) (t:List PV) (m:Mem):Prop:=chkD ops g=true∧K t m
theorem Zo6 {id:Nat} {ops:List Oper} (h1:P.follows .mixedOrders=true) (h:Zee P 4 m.length [] ops.toArray (endD ops (Q .normal)) 0 ops [] t m):pwp P n0 (.region id ops.toArray true) Q t m:=.inl ⟨h1,4,[],by decide,h⟩
theorem ZrR {id wd:Nat} {fl:List Nat} {ops:List Oper} (hwd:decide (0<wd)=true) (h1:P.follows .mixedOrders=true) (h:Zee P wd m.length fl ops.toArray (endD ops (Q .normal)) 0 ops [] t m):pwp P n0 (.region id ops.toArray true) Q t m:=.inl ⟨h1,wd,fl,of_decide_eq_true hwd,h⟩
theorem Zky {ops:List Oper} {g:List LE} (h1:chkD ops g=true) (h2:K t m):endD ops K g t m:=⟨h1,h2⟩
theorem ZmR {c:Code} {σ ο R:Type} {body:σ→Option (σ ⊕ ο)} [E:Z1 body] {N:Nat} {s0:σ} {kont:ο→Option R} {r:R} (H:(Zj body N s0).bind kont=some r) (hcut:Cuts n0 t m (E.T s0) (E.M s0))
 (hround:∀ n s,(Zj body (n+1) s).bind kont=some r→∀ K:List PV→Mem→Prop,(∀ s' t m,(Zj body n s').bind kont=some r→Cuts n0 t m (E.T s') (E.M s')→K t m)→pwp P n0 c (ZgH K Q) (E.T s) (E.M s)):pwp P n0 (.loop c) Q t m:=by
 refine ⟨fun n t m=>∃ s,(Zj body n s).bind kont=some r∧t=E.T s∧m=E.M s,N,E.T s0,E.M s0,hcut,⟨s0,H,rfl,rfl⟩,?_⟩
 rintro n t m ⟨s,hI,rfl,rfl⟩
 cases n with
 | zero=>exact (Hno hI).elim
 | succ n=>exact hround n s hI (fun t m=>∃ k t' m',k<n+1∧Cuts n0 t m t' m'∧∃ s,(Zj body k s).bind kont=some r∧t'=E.T s∧m'=E.M s) (fun s' t m h hc=>⟨n,_,_,by omega,hc,s',h,rfl,rfl⟩)
/-! Elements. -/
def Zel (P:Program) (T:TypeId):Nat:=match P.underlying T with
 | some (.slice e)=>P.cellsOf e
 | _=>0
theorem ZgM {T:TypeId} (h:0<Zel P T):∃ e,P.underlying T=some (.slice e)∧Zel P T=P.cellsOf e:=by
 unfold Zel at *
 split at h
 ·rename_i e he; exact ⟨e,he,rfl⟩
 ·omega
theorem Zgq {α:Type} {xs:List α} {i:Int} {x:α} (h:getI xs i=some x):0≤i∧xs[i.toNat]?=some x:=by
 unfold getI at h
 split at h
 ·exact ⟨by assumption,h⟩
 ·cases h
theorem Znx {α:Type} {xs:List α} {i:Int} {x:α} (h:getI xs i=some x):0≤i∧i<xs.length∧xs[i.toNat]?=some x:=by
 obtain ⟨h1,h2⟩:=Zgq h
 have:=(List.getElem?_eq_some_iff.1 h2).1
 exact ⟨h1,by omega,h2⟩
theorem Zun {α:Type} {f:α→List PV} {xs:List α} {x:α} {T:TypeId} {i:Int} {k:IntKind} (h:getI xs i=some x) (hp:0<Zel P T) (hc:(f x).length=Zel P T) (hK:KR (.rp (f x))):ZY P m T (.sl (xs.map f)) (.v (.int k i)) KR:=by
 obtain ⟨h1,h2,h3⟩:=Znx h
 obtain ⟨e,hu,he⟩:=ZgM hp
 rw [he] at hp hc
 have hd:(xs.map f).getD i.toNat []=f x:=by simp [List.getD,h3]
 simp only [ZY,hu,List.length_map]
 rw [hd]
 exact ⟨h1,h2,hp,hc,hK⟩
theorem ZwG {α:Type} {f:α→List PV} {xs:List α} {x:α} {T:TypeId} {T':TK} {l k':Nat} {i:Int} {k:IntKind} (h:getI xs i=some x) (hm:look m l=some ⟨T',k',xs.map f⟩) (hp:0<Zel P T) (hk:k'=Zel P T) (hK:KR (.be l i.toNat 0)):ZY P m T (.ms l) (.v (.int k i)) KR:=by
 obtain ⟨h1,h2,h3⟩:=Znx h
 obtain ⟨e,hu,he⟩:=ZgM hp
 rw [he] at hk
 simp only [ZY,hu,Zez,hm,List.length_map]
 exact ⟨h1,h2,hk,hK⟩
theorem Zq8 {T:TypeId} {s:ByteArray} {i c:Int} {k:IntKind} (h:getB s i=some c) (hu:P.underlying T=some .string) (hK:KR (.v (.int .u8 c))):ZgD P T (.v (.string s)) (.v (.int k i)) KR:=by
 unfold getB at h
 split at h
 ·rename_i hi
  cases h
  simp only [ZgD,hu]
  exact ⟨hi.1,hi.2,hK⟩
 ·cases h
theorem ZiA {c:Prop} [Decidable c] {v:Value} (hc:c) (h:KR (.v v)):optK (if c then some v else none) KR:=by rw [if_pos hc]; exact h
theorem Zpf {α:Type} {f:α→List PV} {xs:List α} {T:TypeId} {lo hi:Option PV} {l h:Int} (hok:slOk l h xs.length=true) (hlo:pBd lo 0=some l) (hhi:pBd hi xs.length=some h) (hp:0<Zel P T) (hf:∀ x,(f x).length=Zel P T) (hK:KR (.sl ((subL xs l h).map f))):ZdK P m T (.sl (xs.map f)) lo hi KR:=by
 obtain ⟨e,hu,he⟩:=ZgM hp
 rw [he] at hp hf
 have hok':=of_decide_eq_true hok
 simp only [ZdK,hu,List.length_map,hlo,hhi]
 refine ⟨hok'.1,hok'.2.1,hok'.2.2,hp,fun cs hcs=>?_,?_⟩
 ·obtain ⟨x,_,rfl⟩:=List.mem_map.1 hcs
  exact hf x
 ·rw [ZfI,ZfN]; exact hK
theorem ZmZ {s:ByteArray} {T:TypeId} {lo hi:Option PV} {l h:Int} (hok:slOk l h s.size=true) (hlo:pBd lo 0=some l) (hhi:pBd hi s.size=some h) (hu:P.underlying T=some .string) (hK:KR (.v (.string (subS s l h)))):ZdK P m T (.v (.string s)) lo hi KR:=by
 have hok':=of_decide_eq_true hok
 simp only [ZdK,hu,hlo,hhi]
 exact ⟨hok'.1,hok'.2.1,hok'.2.2,hK⟩
/-! Calls. -/
theorem ZlY {f:FuncId} {ps:List PV} {r:PV} {m1:Mem} {io:Bool} {wd ν:Nat} (hs:Zio m ps (fun qs=>Zd1 P f qs [] r m1)) (hw:m1.length≤wd) (hm:∀ mb,some mb∈m1→∀ cs∈mb.es,∀ p∈cs,ZaL true p) (hg:Zfi true r) (hK:KA (renV (sig [] ν) r) (ZcW (sig [] ν) ν m1 m)):ZfX P io wd ν f ps m KA:=
 .inl ⟨r,m1,hs,hw,hm,hg,hK⟩
theorem Zbs {p:PV} (h:isC p=true):ZaL false p∧lowC 0 p=true:=by
 refine ⟨ZgP h,?_⟩
 cases p with
 | fn f cs=>
  simp only [isC,List.all_eq_true] at h
  simp only [lowC,List.all_eq_true]
  intro c hc
  have:=h c hc
  cases c <;> simp_all [isC1,low1]
 | _=>simp_all [isC,isC1,lowC,low1]
theorem ZfK {σ:Nat→Nat} {p:PV} (h:isC p=true):renC σ p=p:=by
 have k1:∀ {d:PV},isC1 d=true→ren1 σ d=d:=fun {d} hd=>by cases d <;> simp_all [isC1,ren1]
 cases p with
 | fn g ds=>
  simp only [isC,List.all_eq_true] at h
  simp only [renC]
  congr 1
  have e:ds.map (ren1 σ)=ds.map id:=List.map_congr_left fun d hd=>k1 (h d hd)
  rw [e,List.map_id]
 | _=>simp_all [isC,isC1,renC,ren1]
theorem Zi0 {σ:Nat→Nat} {p:PV} (h:isCA p=true):renA σ p=p∧Zfh false p∧lowA 0 p=true:=by
 cases p with
 | ag cs=>
  simp only [isCA,List.all_eq_true] at h
  refine ⟨?_,fun c hc=>(Zbs (h c hc)).1,?_⟩
  ·simp only [renA]
   have e:cs.map (renC σ)=cs.map id:=List.map_congr_left fun d hd=>ZfK (h d hd)
   rw [e,List.map_id]
  ·simp only [lowA,List.all_eq_true]; exact fun c hc=>(Zbs (h c hc)).2
 | tu vs=>simp [isCA] at h
 | v x=>
  have h':isC (.v x)=true:=h
  exact ⟨ZfK (σ:=σ) h',(Zbs h').1,(Zbs h').2⟩
 | ud=>
  have h':isC (.ud)=true:=h
  exact ⟨ZfK (σ:=σ) h',(Zbs h').1,(Zbs h').2⟩
 | un=>
  have h':isC (.un)=true:=h
  exact ⟨ZfK (σ:=σ) h',(Zbs h').1,(Zbs h').2⟩
 | sl es=>
  have h':isC (.sl es)=true:=h
  exact ⟨ZfK (σ:=σ) h',(Zbs h').1,(Zbs h').2⟩
 | rp cs=>
  have h':isC (.rp cs)=true:=h
  exact ⟨ZfK (σ:=σ) h',(Zbs h').1,(Zbs h').2⟩
 | ms l=>
  have h':isC (.ms l)=true:=h
  exact ⟨ZfK (σ:=σ) h',(Zbs h').1,(Zbs h').2⟩
 | ss l a b=>
  have h':isC (.ss l a b)=true:=h
  exact ⟨ZfK (σ:=σ) h',(Zbs h').1,(Zbs h').2⟩
 | be l i o=>
  have h':isC (.be l i o)=true:=h
  exact ⟨ZfK (σ:=σ) h',(Zbs h').1,(Zbs h').2⟩
 | fn f cs=>
  have h':isC (.fn f cs)=true:=h
  exact ⟨ZfK (σ:=σ) h',(Zbs h').1,(Zbs h').2⟩
theorem Zhz {f:FuncId} {ps:List PV} {r:PV} {m1:Mem} {io:Bool} {wd ν:Nat} (hs:Zd1 P f ps [] r m1) (hp:∀ p∈ps,isCA p=true) (hw:m1.length≤wd) (hm:∀ mb,some mb∈m1→∀ cs∈mb.es,∀ p∈cs,ZaL false p) (hg:Zfi false r) (hK:KA (renV (sig [] ν) r) (ZcW (sig [] ν) ν m1 m)):ZfX P io wd ν f ps m KA:=by
 refine .inr ⟨[],[],ps,r,m1,.inr rfl,hs,Nat.zero_le _,by simpa using hw,?_,fun q hq=>⟨(Zi0 (σ:=id) (hp q hq)).2.1,(Zi0 (σ:=id) (hp q hq)).2.2⟩,List.nodup_nil,trivial,hm,hg,by simpa [ZeK] using hK⟩
 have:ps.map (renA (sig [] ν))=ps.map id:=List.map_congr_left fun p h=>(Zi0 (hp p h)).1
 rw [this,List.map_id]
/-! Appends. -/
theorem Zwi {α:Type} {f:α→List PV} {xs ys:List α} {T:TypeId} {ν l e k:Nat} {x:PV} {zc:List PV} (hok:Z9 (xs.length+ys.length) (P.bytesOf e)=true) (hu:P.underlying T=some (.slice e)) (hz:pz P e=some zc) (hsrc:Zgc m x=some (ys.map f)) (hl:look m l=some ⟨e,k,xs.map f⟩)
 (hzl:zc.length=P.cellsOf e) (hp:0<P.cellsOf e) (hf:∀ x,(f x).length=P.cellsOf e) (hk:k=P.cellsOf e) (hK:KA (.ms ν) (mput (m.set l none) ν ⟨e,k,(xs++ys).map f⟩)):ZcU P ν m T (.ms l) x KA:=by
 subst hk
 have hok':=of_decide_eq_true hok
 simp only [ZcU,hu,hz,hsrc,Zez,hl,List.length_map]
 refine ⟨hzl,hp,fun cs hcs=>?_,rfl,trivial,hok'.1,hok'.2,?_⟩
 ·obtain ⟨x,_,rfl⟩:=List.mem_map.1 hcs
  exact hf x
 ·rw [Zwh]; exact hK
theorem Zwj {α:Type} {f:α→List PV} {ys:List α} {T:TypeId} {ν e:Nat} {x:PV} {zc:List PV} (hok:Z9 ys.length (P.bytesOf e)=true) (hu:P.underlying T=some (.slice e)) (hz:pz P e=some zc) (hsrc:Zgc m x=some (ys.map f))
 (hzl:zc.length=P.cellsOf e) (hp:0<P.cellsOf e) (hf:∀ x,(f x).length=P.cellsOf e) (hK:KA (.ms ν) (mput m ν ⟨e,P.cellsOf e,ys.map f⟩)):ZcU P ν m T (.v (.slice none 0 0)) x KA:=by
 have hok':=of_decide_eq_true hok
 simp only [ZcU,hu,hz,hsrc,List.length_map]
 refine ⟨hzl,hp,fun cs hcs=>?_,hok'.1,hok'.2,hK⟩
 obtain ⟨x,_,rfl⟩:=List.mem_map.1 hcs
 exact hf x
/-! Cuts. -/
theorem ZoB {ρ:Nat→Option Nat}:cutT ρ m m' [] []:=trivial
theorem ZqJ {ρ:Nat→Option Nat} {p:PV} {ps rs:List PV} (h:cutT ρ m m' ps rs):cutT ρ m m' (p::ps) (.un::rs):=⟨.a (.c (.un p)),h⟩
theorem Zuj {ρ:Nat→Option Nat} {p r:PV} {ps rs:List PV} (hc:CutV ρ m m' p r) (h:cutT ρ m m' ps rs):cutT ρ m m' (p::ps) (r::rs):=⟨hc,h⟩
theorem ZoC {ρ:Nat→Option Nat} {p:PV} (h:isC p=true):CutV ρ m m' p p:=.a (.c (.c p h))
theorem Zuk {ρ:Nat→Option Nat} {p r:PV} (h:CutC ρ m m' p r):CutV ρ m m' p r:=.a (.c h)
theorem ZqK {ρ:Nat→Option Nat} {cs ds:List PV} (h:cutL ρ m m' cs ds):CutV ρ m m' (.ag cs) (.ag ds):=.a (.ag cs ds h)
theorem Zqz {ρ:Nat→Option Nat} {cs ds:List PV} (h:cutL ρ m m' cs ds):CutA ρ m m' (.ag cs) (.ag ds):=.ag cs ds h
theorem Zt5 {ρ:Nat→Option Nat} {p r:PV} (h:CutC ρ m m' p r):CutA ρ m m' p r:=.c h
theorem ZqL {ρ:Nat→Option Nat} {cs ds:List PV} (h:Znl ρ m m' cs ds):CutV ρ m m' (.tu cs) (.tu ds):=.tu cs ds h
theorem Zl4 {ρ:Nat→Option Nat}:Znl ρ m m' [] []:=trivial
theorem ZqA {ρ:Nat→Option Nat} {p r:PV} {ps rs:List PV} (hc:CutA ρ m m' p r) (h:Znl ρ m m' ps rs):Znl ρ m m' (p::ps) (r::rs):=⟨hc,h⟩
theorem Zoz {ρ:Nat→Option Nat}:cutL ρ m m' [] []:=trivial
theorem Zui {ρ:Nat→Option Nat} {p r:PV} {ps rs:List PV} (hc:CutC ρ m m' p r) (h:cutL ρ m m' ps rs):cutL ρ m m' (p::ps) (r::rs):=⟨hc,h⟩
def rho (rs:List (Option Nat)) (l:Nat):Option Nat:=(rs[l]?).join
theorem ZvV {x:Option Nat} {rs:List (Option Nat)}:rho (x::rs) 0=x:=by cases x <;> rfl
theorem Zr4 {x:Option Nat} {rs:List (Option Nat)} {l:Nat}:rho (x::rs) (l+1)=rho rs l:=rfl
theorem ZqC {rs:List (Option Nat)} {l k:Nat} (h:rho rs l=some k) (hl:decide (l<m'.length)=true):CutC (rho rs) m m' (.ms k) (.ms l):=.ms l k h (of_decide_eq_true hl)
theorem ZqB {rs:List (Option Nat)} {l k i o:Nat} (h:rho rs l=some k) (hl:decide (l<m'.length)=true):CutC (rho rs) m m' (.be k i o) (.be l i o):=.be l k i o h (of_decide_eq_true hl)
theorem Zkw {rs:List (Option Nat)} {l:Nat} (h:rho rs l=none) (hl:decide (l<m'.length)=true):CutC (rho rs) m m' (.v (.slice none 0 0)) (.ms l):=.nilms l h (of_decide_eq_true hl)
theorem Zkx {α:Type} {f:α→List PV} {ρ:Nat→Option Nat} {c:Nat}:CutC ρ m m' (.v (.slice none 0 c)) (.sl (([]:List α).map f)):=.nilsl c
def outB (rs:List (Option Nat)) (k:Nat):Bool:=rs.all fun x=>match x with
 | some j=>!decide (j=k)
 | none=>true
theorem Zh6 {rs:List (Option Nat)} {k:Nat} (h:outB rs k=true):Ze9 (rho rs) m' k:=by
 intro l _ he
 unfold rho at he
 cases hl:rs[l]? with
 | none=>rw [hl] at he; cases he
 | some x=>
  rw [hl] at he
  have he':x=some k:=he
  subst he'
  have:=List.all_eq_true.1 h _ (List.mem_of_getElem? hl)
  simp at this
theorem Zk3 {rs:List (Option Nat)} {α:Type} {f:α→List PV} [ZaA f] {xs:List α} {k k':Nat} {T:TK} (hm:look m k=some ⟨T,k',xs.map f⟩) (hd:Ze9 (rho rs) m' k):CutC (rho rs) m m' (.ms k) (.sl (xs.map f)):=.fms k ⟨T,k',xs.map f⟩ (Zc2.1 hm) Zi4 hd
theorem Zou {rs:List (Option Nat)} {k k':Nat} {T:TK} {cs:List PV} (hm:look m k=some ⟨T,k',[cs]⟩) (hc:cs.all isC=true) (hd:Ze9 (rho rs) m' k):CutC (rho rs) m m' (.be k 0 0) (.rp cs):=by
 have:=CutC.fbe (ρ:=rho rs) (m:=m) (m':=m') k 0 0 ⟨T,k',[cs]⟩ cs (Zc2.1 hm) rfl (List.all_eq_true.1 hc) hd
 simpa using this
def cutF (ρ:Nat→Option Nat) (m m':Mem) (mb mb':MB):Prop:=cutB ρ m m' mb mb'∧∀ k0:Nat,m[k0]?=some (some mb)→cutK ρ m m' mb mb'
def noMs:PV→Bool
 | .ms _ | .ss ..=>false
 | _=>true
theorem Zl9 {ρ:Nat→Option Nat} {mb mb':MB} (h:mb'.T.kd=none):cutK ρ m m' mb mb':=fun T hT=>by rw [h] at hT; cases hT
theorem Zma {ρ:Nat→Option Nat} {mb:MB}:cutK ρ m m' mb mb:=fun _ hT _ ds _ _ hi hj _=>.inl ⟨hT,ds,hi,hj⟩
theorem ZqD {ρ:Nat→Option Nat} {p:PV} {es:List (List PV)} (h:CutC ρ m m' p (.sl es)) (hp:noMs p=true) (hne:es≠[]):p=.sl es:=by
 cases h with
 | c _ _=>rfl
 | nilsl c=>exact absurd rfl hne
 | fms=>cases hp
 | fss=>cases hp
theorem Zwu {ρ:Nat→Option Nat} {T:TK} {k k':Nat} {es es':List (List PV)} (h:cutE ρ m m' es es') (hn:∀ cs∈es,∀ p∈cs,noMs p=true):cutK ρ m m' ⟨T,k,es⟩ ⟨T,k',es'⟩:=fun T1 hT i ds j l hi hj hne=>by
 obtain ⟨cs,h1,h2⟩:=(Zf3 h).2 i ds hi
 obtain ⟨p,h3,h4⟩:=(ZgL h2).2 j _ hj
 have:=ZqD h4 (hn cs (List.mem_of_getElem? h1) p (List.mem_of_getElem? h3)) hne
 subst this
 exact .inl ⟨hT,cs,h1,h3⟩
def ZaM (rs:List (Option Nat)) (m m':Mem):List (Option Nat)→Mem→Prop
 | _,[]=>True
 | r::rr,none::mm=>ZaM rs m m' rr mm
 | some k::rr,some mb'::mm=>(∃ mb,look m k=some mb∧cutF (rho rs) m m' mb mb')∧ZaM rs m m' rr mm
 | none::rr,some mb'::mm=>(mb'.es=[]∧0<mb'.k)∧ZaM rs m m' rr mm
 | _,_=>False
theorem ZkP {rs rr:List (Option Nat)}:ZaM rs m m' rr []:=by unfold ZaM; trivial
theorem ZjT {rs rr:List (Option Nat)} {r:Option Nat} {mm:Mem} (h:ZaM rs m m' rr mm):ZaM rs m m' (r::rr) (none::mm):=h
theorem ZjU {rs rr:List (Option Nat)} {k:Nat} {mb mb':MB} {mm:Mem} (h1:look m k=some mb) (h2:cutF (rho rs) m m' mb mb') (h:ZaM rs m m' rr mm):ZaM rs m m' (some k::rr) (some mb'::mm):=⟨⟨mb,h1,h2⟩,h⟩
theorem ZkO {α:Type} {f:α→List PV} {rs rr:List (Option Nat)} {T:TK} {k:Nat} {mm:Mem} (hk:decide (0<k)=true) (h:ZaM rs m m' rr mm):ZaM rs m m' (none::rr) (some ⟨T,k,([]:List α).map f⟩::mm):=⟨⟨rfl,of_decide_eq_true hk⟩,h⟩
theorem ZhB {α:Type} {f:α→List PV} [ZaA f] {ρ:Nat→Option Nat} {T:TK} {k:Nat} {xs:List α}:cutF ρ m m' ⟨T,k,xs.map f⟩ ⟨T,k,xs.map f⟩:=⟨⟨rfl,rfl,.inl ⟨rfl,Zi4⟩⟩,fun _ _=>Zma⟩
theorem Zor {ρ:Nat→Option Nat} {T k:Nat} {cs ds:List PV} (h:cutL ρ m m' cs ds):cutF ρ m m' ⟨T,k,[cs]⟩ ⟨T,k,[ds]⟩:=⟨⟨rfl,rfl,.inr ⟨h,trivial⟩⟩,fun _ _=>Zl9 rfl⟩
theorem ZgX {rs:List (Option Nat)}:∀ (rr:List (Option Nat)) (mm:Mem),ZaM rs m m' rr mm→∀ l mb',mm[l]?=some (some mb')→(∃ k mb,rho rr l=some k∧m[k]?=some (some mb)∧cutF (rho rs) m m' mb mb')∨(rho rr l=none∧mb'.es=[]∧0<mb'.k)
 | _,[],_,l,mb',h=>by simp at h
 | [],none::mm,h,_,_,_=>by unfold ZaM at h; exact h.elim
 | [],some _::mm,h,_,_,_=>by unfold ZaM at h; exact h.elim
 | r::rr,none::mm,h,l,mb',hl=>by
  cases l with
  | zero=>simp at hl
  | succ l=>exact ZgX rr mm h l mb' (by simpa using hl)
 | some k::rr,some mb::mm,h,l,mb',hl=>by
  cases l with
  | zero=>
   obtain rfl:mb=mb':=by simpa using hl
   obtain ⟨⟨mb0,h1,h2⟩,_⟩:=h
   exact .inl ⟨k,mb0,rfl,Zc2.1 h1,h2⟩
  | succ l=>exact ZgX rr mm h.2 l mb' (by simpa using hl)
 | none::rr,some mb::mm,h,l,mb',hl=>by
  cases l with
  | zero=>
   obtain rfl:mb=mb':=by simpa using hl
   exact .inr ⟨rfl,h.1⟩
  | succ l=>exact ZgX rr mm h.2 l mb' (by simpa using hl)
def injB:List (Option Nat)→Bool
 | []=>true
 | none::rs=>injB rs
 | some k::rs=>outB rs k && injB rs
theorem ZoS:∀ (rs:List (Option Nat)),injB rs=true→∀ l l' k,rho rs l=some k→rho rs l'=some k→l=l'
 | [],_,l,l',k,h,_=>by simp [rho] at h
 | x::rs,hb,l,l',k,h,h'=>by
  have hout:∀ {j:Nat},x=some k→rho rs j=some k→False:=by
   rintro j rfl hj
   simp only [injB,Bool.and_eq_true] at hb
   have:=Zh6 (m':=[]) hb.1
   unfold rho at hj
   cases hl:rs[j]? with
   | none=>rw [hl] at hj; cases hj
   | some y=>
    rw [hl] at hj
    have hy:y=some k:=hj
    subst hy
    have:=List.all_eq_true.1 hb.1 _ (List.mem_of_getElem? hl)
    simp at this
  have hrest:injB rs=true:=by cases x <;> simp_all [injB]
  cases l with
  | zero=>
   rw [ZvV] at h
   cases l' with
   | zero=>rfl
   | succ l'=>exact (hout h (by simpa [Zr4] using h')).elim
  | succ l=>
   rw [Zr4] at h
   cases l' with
   | zero=>rw [ZvV] at h'; exact (hout h' h).elim
   | succ l'=>rw [ZoS rs hrest l l' k h (by simpa [Zr4] using h')]
def lowB:Nat→Nat→List (Option Nat)→Mem→Bool
 | 0,_,_,_=>true
 | _+1,_,_,[]=>false
 | n+1,i,rs,none::m=>lowB n (i+1) (rs.drop 1) m
 | n+1,i,some k::rs,some _::m=>decide (k=i) && lowB n (i+1) rs m
 | _,_,_,_=>false
theorem Zi3:∀ (n i:Nat) (rs:List (Option Nat)) (m':Mem),lowB n i rs m'=true→n≤m'.length∧∀ l,l<n→ZhI m' l=true→rho rs l=some (i+l)
 | 0,i,rs,m',_=>⟨Nat.zero_le _,fun l hl=>by omega⟩
 | n+1,i,rs,[],h=>by simp [lowB] at h
 | n+1,i,rs,none::m,h=>by
  simp only [lowB] at h
  obtain ⟨h1,h2⟩:=Zi3 n (i+1) (rs.drop 1) m h
  refine ⟨by simp; omega,fun l hl hlv=>?_⟩
  cases l with
  | zero=>simp [ZhI] at hlv
  | succ l=>
   have:=h2 l (by omega) (by simpa [ZhI] using hlv)
   cases rs with
   | nil=>simp [rho] at this
   | cons x rs=>
    rw [Zr4]
    rw [show i+(l+1)=i+1+l by omega]
    simpa using this
 | n+1,i,some k::rs,some mb::m,h=>by
  simp only [lowB,Bool.and_eq_true,decide_eq_true_eq] at h
  obtain ⟨h1,h2⟩:=Zi3 n (i+1) rs m h.2
  refine ⟨by simp; omega,fun l hl hlv=>?_⟩
  cases l with
  | zero=>rw [ZvV,h.1]; rfl
  | succ l=>
   rw [Zr4,show i+(l+1)=i+1+l by omega]
   exact h2 l (by omega) (by simpa [ZhI] using hlv)
 | n+1,i,none::rs,some mb::m,h=>by simp [lowB] at h
 | n+1,i,[],some mb::m,h=>by simp [lowB] at h
theorem Zdd {rs:List (Option Nat)} (hT:cutT (rho rs) m m' t t') (hM:ZaM rs m m' rs m') (hi:injB rs=true) (hl:lowB n0 0 rs m'=true):Cuts n0 t m t' m':=
 .one ⟨rho rs,hT,fun l mb' hm=>(ZgX rs m' hM l mb' hm).imp (fun ⟨k,mb,a,b,c⟩=>⟨k,mb,a,b,c.1,c.2 k b⟩) id,fun l l' k _ _=>ZoS rs hi l l' k,fun l hl' hlv=>by
  have:=(Zi3 n0 0 rs m' hl).2 l hl' hlv
  simpa using this,(Zi3 n0 0 rs m' hl).1⟩
end
abbrev cInt (x:Int):List PV:=[vi x]
abbrev cStr (x:ByteArray):List PV:=[vs x]
abbrev ZlX (x:Bool):List PV:=[vb x]
def ZxF (n:Int):Prop:=(Lit.int .i64 n).wf=true
@[ext] structure Zw where
 service:Int
 serial:Int
 to_:ByteArray
 deriving DecidableEq
abbrev Zd7 (x:Zw):List PV:=[vi x.service,vi x.serial,vs x.to_]
@[ext] structure Zi where
 label:Zw
 from_:ByteArray
 weight:Int
 sides:List Int
 value:Int
 deriving DecidableEq
abbrev Zar (x:Zi):List PV:=[vi x.label.service,vi x.label.serial,vs x.label.to_,vs x.from_,vi x.weight,.sl (x.sides.map cInt),vi x.value]
@[ext] structure Zbg where
 first:ByteArray
 last:ByteArray
 deriving DecidableEq
abbrev ZcB (x:Zbg):List PV:=[vs x.first,vs x.last]
@[ext] structure Zai where
 zone:Int
 service:Int
 limit:Int
 price:Int
 deriving DecidableEq
abbrev Zb5 (x:Zai):List PV:=[vi x.zone,vi x.service,vi x.limit,vi x.price]
@[ext] structure YLeg where
 from_:ByteArray
 to_:ByteArray
 start:Int
 takes:Int
 days:Int
 room:Int
 deriving DecidableEq
abbrev cLeg (x:YLeg):List PV:=[vs x.from_,vs x.to_,vi x.start,vi x.takes,vi x.days,vi x.room]
@[ext] structure Za where
 legs:List YLeg
 off:List Int
 change:Int
 deriving DecidableEq
abbrev Z2 (x:Za):List PV:=[.sl (x.legs.map cLeg),.sl (x.off.map cInt),vi x.change]
@[ext] structure Zg where
 leg:Int
 day:Int
 deriving DecidableEq
abbrev ZS (x:Zg):List PV:=[vi x.leg,vi x.day]
@[ext] structure Zc where
 thing:Int
 trip:Zg
 weight:Int
 deriving DecidableEq
abbrev Zk (x:Zc):List PV:=[vi x.thing,vi x.trip.leg,vi x.trip.day,vi x.weight]
@[ext] structure ZU where
 thing:Int
 at_:Int
 kind:Int
 place:ByteArray
 trip:Zg
 deriving DecidableEq
abbrev Zax (x:ZU):List PV:=[vi x.thing,vi x.at_,vi x.kind,vs x.place,vi x.trip.leg,vi x.trip.day]
@[ext] structure Zh where
 from_:ByteArray
 to_:ByteArray
 service:Int
 weight:Int
 at_:Int
 due:Int
 way:List Zg
 gone:Int
 state:Int
 place:ByteArray
 ended:Int
 deriving DecidableEq
abbrev ZV (x:Zh):List PV:=[vs x.from_,vs x.to_,vi x.service,vi x.weight,vi x.at_,vi x.due,.sl (x.way.map ZS),vi x.gone,vi x.state,vs x.place,vi x.ended]
@[ext] structure Ze where
 network:Za
 orders:List Zh
 bookings:List Zc
 closed:List Zg
 now:Int
 scans:List ZU
 skip:List Int
 made:Int
 deriving DecidableEq
abbrev Ze0 (x:Ze):List PV:=[.sl (x.network.legs.map cLeg),.sl (x.network.off.map cInt),vi x.network.change,.sl (x.orders.map ZV),.sl (x.bookings.map Zk),.sl (x.closed.map ZS),vi x.now,.sl (x.scans.map Zax),.sl (x.skip.map cInt),vi x.made]
@[ext] structure ZaF where
 order:Int
 kind:Int
 amount:Int
 at_:Int
 deriving DecidableEq
abbrev Zbi (x:ZaF):List PV:=[vi x.order,vi x.kind,vi x.amount,vi x.at_]
@[ext] structure YAct where
 kind:Int
 parcel:Zi
 order:Int
 amount:Int
 until_:Int
 trip:Zg
 deriving DecidableEq
abbrev cAct (x:YAct):List PV:=[vi x.kind,vi x.parcel.label.service,vi x.parcel.label.serial,vs x.parcel.label.to_,vs x.parcel.from_,vi x.parcel.weight,.sl (x.parcel.sides.map cInt),vi x.parcel.value,vi x.order,vi x.amount,vi x.until_,vi x.trip.leg,vi x.trip.day]
@[ext] structure Zr where
 world:Ze
 zones:List Zbg
 rates:List Zai
 percents:List Int
 parcels:List Zi
 lines:List ZaF
 journal:List YAct
 deriving DecidableEq
abbrev Ze8 (x:Zr):List PV:=[.sl (x.world.network.legs.map cLeg),.sl (x.world.network.off.map cInt),vi x.world.network.change,.sl (x.world.orders.map ZV),.sl (x.world.bookings.map Zk),.sl (x.world.closed.map ZS),vi x.world.now,.sl (x.world.scans.map Zax),.sl (x.world.skip.map cInt),vi x.world.made,.sl (x.zones.map ZcB),.sl (x.rates.map Zb5),.sl (x.percents.map cInt),.sl (x.parcels.map Zar),.sl (x.lines.map Zbi),.sl (x.journal.map cAct)]
@[ext] structure Zql where
 id:Int
 dest:Int
 deriving DecidableEq
abbrev Zjf (x:Zql):List PV:=[vi x.id,vi x.dest]
@[ext] structure Zqj where
 cell:Int
 room:Int
 held:List Zql
 deriving DecidableEq
abbrev Zjd (x:Zqj):List PV:=[vi x.cell,vi x.room,.sl (x.held.map Zjf)]
@[ext] structure Zqk where
 cell:Int
 wait:List Zql
 deriving DecidableEq
abbrev Zje (x:Zqk):List PV:=[vi x.cell,.sl (x.wait.map Zjf)]
@[ext] structure Zqi where
 belt:List Zql
 chutes:List Zqj
 inlets:List Zqk
 plan:List Int
 now:Int
 deriving DecidableEq
abbrev Zh2 (x:Zqi):List PV:=[.sl (x.belt.map Zjf),.sl (x.chutes.map Zjd),.sl (x.inlets.map Zje),.sl (x.plan.map cInt),vi x.now]
@[ext] structure Zt0 where
 id:Int
 own:Int
 room:Int
 in_:Int
 box:Bool
 sealed:Bool
 deriving DecidableEq
abbrev Ziv (x:Zt0):List PV:=[vi x.id,vi x.own,vi x.room,vi x.in_,vb x.box,vb x.sealed]
@[ext] structure Zqh where
 places:List ByteArray
 rides:List Zg
 deriving DecidableEq
abbrev Zh1 (x:Zqh):List PV:=[.sl (x.places.map cStr),.sl (x.rides.map ZS)]
attribute [go_sem] Tryz.underlying2
@[go_sem] theorem tc2:Tryz.prog.cellsOf 2=1:=by kernel_rfl
@[go_sem] theorem tb2:Tryz.prog.bytesOf 2=8:=by kernel_rfl
@[go_sem] theorem tz2:pz Tryz.prog 2=some [.v (.int .i64 0)]:=by kernel_rfl
attribute [go_sem] Tryz.underlying3
@[go_sem] theorem tc3:Tryz.prog.cellsOf 3=1:=by kernel_rfl
@[go_sem] theorem tb3:Tryz.prog.bytesOf 3=8:=by kernel_rfl
@[go_sem] theorem tz3:pz Tryz.prog 3=some [.v (.int .i64 0)]:=by kernel_rfl
attribute [go_sem] Tryz.underlying4
@[go_sem] theorem tc4:Tryz.prog.cellsOf 4=1:=by kernel_rfl
@[go_sem] theorem tb4:Tryz.prog.bytesOf 4=1:=by kernel_rfl
@[go_sem] theorem tz4:pz Tryz.prog 4=some [.v (.bool false)]:=by kernel_rfl
attribute [go_sem] Tryz.underlying5
@[go_sem] theorem tc5:Tryz.prog.cellsOf 5=1:=by kernel_rfl
@[go_sem] theorem tb5:Tryz.prog.bytesOf 5=1:=by kernel_rfl
@[go_sem] theorem tz5:pz Tryz.prog 5=some [.v (.int .u8 0)]:=by kernel_rfl
attribute [go_sem] Tryz.underlying9
@[go_sem] theorem tc9:Tryz.prog.cellsOf 9=1:=by kernel_rfl
@[go_sem] theorem tb9:Tryz.prog.bytesOf 9=16:=by kernel_rfl
@[go_sem] theorem tz9:pz Tryz.prog 9=some [.v (.string ⟨#[]⟩)]:=by kernel_rfl
attribute [go_sem] Tryz.underlying12
@[go_sem] theorem tc12:Tryz.prog.cellsOf 12=1:=by kernel_rfl
@[go_sem] theorem tb12:Tryz.prog.bytesOf 12=8:=by kernel_rfl
@[go_sem] theorem tz12:pz Tryz.prog 12=some [.v (.int .u64 0)]:=by kernel_rfl
attribute [go_sem] Tryz.underlying21
@[go_sem] theorem tc21:Tryz.prog.cellsOf 21=1:=by kernel_rfl
@[go_sem] theorem tb21:Tryz.prog.bytesOf 21=4:=by kernel_rfl
@[go_sem] theorem tz21:pz Tryz.prog 21=some [.v (.int .i32 0)]:=by kernel_rfl
attribute [go_sem] Tryz.underlying22
@[go_sem] theorem tc22:Tryz.prog.cellsOf 22=3:=by kernel_rfl
@[go_sem] theorem tb22:Tryz.prog.bytesOf 22=32:=by kernel_rfl
@[go_sem] theorem tz22:pz Tryz.prog 22=some [.v (.int .i64 0),.v (.int .i64 0),.v (.string ⟨#[]⟩)]:=by kernel_rfl
@[go_sem] theorem te22:Tryz.prog.eqGuardType Tryz.prog.depth 22=false:=by kernel_rfl
@[go_sem] theorem ts22:Tryz.prog.stoodInHeld 22=false:=by kernel_rfl
attribute [go_sem] Tryz.underlying23
@[go_sem] theorem tc23:Tryz.prog.cellsOf 23=3:=by kernel_rfl
@[go_sem] theorem tb23:Tryz.prog.bytesOf 23=32:=by kernel_rfl
@[go_sem] theorem tz23:pz Tryz.prog 23=some [.v (.int .i64 0),.v (.int .i64 0),.v (.string ⟨#[]⟩)]:=by kernel_rfl
@[go_sem] theorem te23:Tryz.prog.eqGuardType Tryz.prog.depth 23=false:=by kernel_rfl
@[go_sem] theorem ts23:Tryz.prog.stoodInHeld 23=false:=by kernel_rfl
attribute [go_sem] Tryz.underlying24
@[go_sem] theorem tc24:Tryz.prog.cellsOf 24=1:=by kernel_rfl
@[go_sem] theorem tb24:Tryz.prog.bytesOf 24=24:=by kernel_rfl
@[go_sem] theorem tz24:pz Tryz.prog 24=some [.v (.slice none 0 0)]:=by kernel_rfl
@[go_sem] theorem tk24:Zel Tryz.prog 24=1:=by kernel_rfl
attribute [go_sem] Tryz.underlying25
@[go_sem] theorem tc25:Tryz.prog.cellsOf 25=7:=by kernel_rfl
@[go_sem] theorem tb25:Tryz.prog.bytesOf 25=88:=by kernel_rfl
@[go_sem] theorem tz25:pz Tryz.prog 25=some [.v (.int .i64 0),.v (.int .i64 0),.v (.string ⟨#[]⟩),.v (.string ⟨#[]⟩),.v (.int .i64 0),.v (.slice none 0 0),.v (.int .i64 0)]:=by kernel_rfl
@[go_sem] theorem te25:Tryz.prog.eqGuardType Tryz.prog.depth 25=false:=by kernel_rfl
@[go_sem] theorem ts25:Tryz.prog.stoodInHeld 25=false:=by kernel_rfl
attribute [go_sem] Tryz.underlying26
@[go_sem] theorem tc26:Tryz.prog.cellsOf 26=7:=by kernel_rfl
@[go_sem] theorem tb26:Tryz.prog.bytesOf 26=88:=by kernel_rfl
@[go_sem] theorem tz26:pz Tryz.prog 26=some [.v (.int .i64 0),.v (.int .i64 0),.v (.string ⟨#[]⟩),.v (.string ⟨#[]⟩),.v (.int .i64 0),.v (.slice none 0 0),.v (.int .i64 0)]:=by kernel_rfl
@[go_sem] theorem te26:Tryz.prog.eqGuardType Tryz.prog.depth 26=false:=by kernel_rfl
@[go_sem] theorem ts26:Tryz.prog.stoodInHeld 26=false:=by kernel_rfl
attribute [go_sem] Tryz.underlying27
@[go_sem] theorem tc27:Tryz.prog.cellsOf 27=2:=by kernel_rfl
@[go_sem] theorem tb27:Tryz.prog.bytesOf 27=16:=by kernel_rfl
@[go_sem] theorem tz27:pz Tryz.prog 27=some [.v (.int .i64 0),.v (.int .i64 0)]:=by kernel_rfl
@[go_sem] theorem te27:Tryz.prog.eqGuardType Tryz.prog.depth 27=false:=by kernel_rfl
@[go_sem] theorem ts27:Tryz.prog.stoodInHeld 27=false:=by kernel_rfl
attribute [go_sem] Tryz.underlying28
@[go_sem] theorem tc28:Tryz.prog.cellsOf 28=2:=by kernel_rfl
@[go_sem] theorem tb28:Tryz.prog.bytesOf 28=16:=by kernel_rfl
@[go_sem] theorem tz28:pz Tryz.prog 28=some [.v (.int .i64 0),.v (.int .i64 0)]:=by kernel_rfl
@[go_sem] theorem te28:Tryz.prog.eqGuardType Tryz.prog.depth 28=false:=by kernel_rfl
@[go_sem] theorem ts28:Tryz.prog.stoodInHeld 28=false:=by kernel_rfl
attribute [go_sem] Tryz.underlying29
@[go_sem] theorem tc29:Tryz.prog.cellsOf 29=13:=by kernel_rfl
@[go_sem] theorem tb29:Tryz.prog.bytesOf 29=136:=by kernel_rfl
@[go_sem] theorem tz29:pz Tryz.prog 29=some [.v (.int .i64 0),.v (.int .i64 0),.v (.int .i64 0),.v (.string ⟨#[]⟩),.v (.string ⟨#[]⟩),.v (.int .i64 0),.v (.slice none 0 0),.v (.int .i64 0),.v (.int .i64 0),.v (.int .i64 0),.v (.int .i64 0),.v (.int .i64 0),.v (.int .i64 0)]:=by kernel_rfl
@[go_sem] theorem te29:Tryz.prog.eqGuardType Tryz.prog.depth 29=false:=by kernel_rfl
@[go_sem] theorem ts29:Tryz.prog.stoodInHeld 29=false:=by kernel_rfl
attribute [go_sem] Tryz.underlying30
@[go_sem] theorem tc30:Tryz.prog.cellsOf 30=13:=by kernel_rfl
@[go_sem] theorem tb30:Tryz.prog.bytesOf 30=136:=by kernel_rfl
@[go_sem] theorem tz30:pz Tryz.prog 30=some [.v (.int .i64 0),.v (.int .i64 0),.v (.int .i64 0),.v (.string ⟨#[]⟩),.v (.string ⟨#[]⟩),.v (.int .i64 0),.v (.slice none 0 0),.v (.int .i64 0),.v (.int .i64 0),.v (.int .i64 0),.v (.int .i64 0),.v (.int .i64 0),.v (.int .i64 0)]:=by kernel_rfl
@[go_sem] theorem te30:Tryz.prog.eqGuardType Tryz.prog.depth 30=false:=by kernel_rfl
@[go_sem] theorem ts30:Tryz.prog.stoodInHeld 30=false:=by kernel_rfl
attribute [go_sem] Tryz.underlying36
@[go_sem] theorem tc36:Tryz.prog.cellsOf 36=1:=by kernel_rfl
@[go_sem] theorem tb36:Tryz.prog.bytesOf 36=24:=by kernel_rfl
@[go_sem] theorem tz36:pz Tryz.prog 36=some [.v (.slice none 0 0)]:=by kernel_rfl
@[go_sem] theorem tk36:Zel Tryz.prog 36=13:=by kernel_rfl
attribute [go_sem] Tryz.underlying40
@[go_sem] theorem tc40:Tryz.prog.cellsOf 40=1:=by kernel_rfl
@[go_sem] theorem tb40:Tryz.prog.bytesOf 40=24:=by kernel_rfl
@[go_sem] theorem tz40:pz Tryz.prog 40=some [.v (.slice none 0 0)]:=by kernel_rfl
@[go_sem] theorem tk40:Zel Tryz.prog 40=1:=by kernel_rfl
attribute [go_sem] Tryz.underlying45
@[go_sem] theorem tc45:Tryz.prog.cellsOf 45=1:=by kernel_rfl
@[go_sem] theorem tb45:Tryz.prog.bytesOf 45=24:=by kernel_rfl
@[go_sem] theorem tz45:pz Tryz.prog 45=some [.v (.slice none 0 0)]:=by kernel_rfl
@[go_sem] theorem tk45:Zel Tryz.prog 45=1:=by kernel_rfl
attribute [go_sem] Tryz.underlying78
@[go_sem] theorem tc78:Tryz.prog.cellsOf 78=1:=by kernel_rfl
@[go_sem] theorem tb78:Tryz.prog.bytesOf 78=24:=by kernel_rfl
@[go_sem] theorem tz78:pz Tryz.prog 78=some [.v (.slice none 0 0)]:=by kernel_rfl
@[go_sem] theorem tk78:Zel Tryz.prog 78=6:=by kernel_rfl
attribute [go_sem] Tryz.underlying79
@[go_sem] theorem tc79:Tryz.prog.cellsOf 79=3:=by kernel_rfl
@[go_sem] theorem tb79:Tryz.prog.bytesOf 79=56:=by kernel_rfl
@[go_sem] theorem tz79:pz Tryz.prog 79=some [.v (.slice none 0 0),.v (.slice none 0 0),.v (.int .i64 0)]:=by kernel_rfl
@[go_sem] theorem te79:Tryz.prog.eqGuardType Tryz.prog.depth 79=false:=by kernel_rfl
@[go_sem] theorem ts79:Tryz.prog.stoodInHeld 79=false:=by kernel_rfl
attribute [go_sem] Tryz.underlying80
@[go_sem] theorem tc80:Tryz.prog.cellsOf 80=3:=by kernel_rfl
@[go_sem] theorem tb80:Tryz.prog.bytesOf 80=56:=by kernel_rfl
@[go_sem] theorem tz80:pz Tryz.prog 80=some [.v (.slice none 0 0),.v (.slice none 0 0),.v (.int .i64 0)]:=by kernel_rfl
@[go_sem] theorem te80:Tryz.prog.eqGuardType Tryz.prog.depth 80=false:=by kernel_rfl
@[go_sem] theorem ts80:Tryz.prog.stoodInHeld 80=false:=by kernel_rfl
attribute [go_sem] Tryz.underlying81
@[go_sem] theorem tc81:Tryz.prog.cellsOf 81=1:=by kernel_rfl
@[go_sem] theorem tb81:Tryz.prog.bytesOf 81=24:=by kernel_rfl
@[go_sem] theorem tz81:pz Tryz.prog 81=some [.v (.slice none 0 0)]:=by kernel_rfl
@[go_sem] theorem tk81:Zel Tryz.prog 81=11:=by kernel_rfl
attribute [go_sem] Tryz.underlying82
@[go_sem] theorem tc82:Tryz.prog.cellsOf 82=1:=by kernel_rfl
@[go_sem] theorem tb82:Tryz.prog.bytesOf 82=24:=by kernel_rfl
@[go_sem] theorem tz82:pz Tryz.prog 82=some [.v (.slice none 0 0)]:=by kernel_rfl
@[go_sem] theorem tk82:Zel Tryz.prog 82=4:=by kernel_rfl
attribute [go_sem] Tryz.underlying83
@[go_sem] theorem tc83:Tryz.prog.cellsOf 83=1:=by kernel_rfl
@[go_sem] theorem tb83:Tryz.prog.bytesOf 83=24:=by kernel_rfl
@[go_sem] theorem tz83:pz Tryz.prog 83=some [.v (.slice none 0 0)]:=by kernel_rfl
@[go_sem] theorem tk83:Zel Tryz.prog 83=2:=by kernel_rfl
attribute [go_sem] Tryz.underlying84
@[go_sem] theorem tc84:Tryz.prog.cellsOf 84=1:=by kernel_rfl
@[go_sem] theorem tb84:Tryz.prog.bytesOf 84=24:=by kernel_rfl
@[go_sem] theorem tz84:pz Tryz.prog 84=some [.v (.slice none 0 0)]:=by kernel_rfl
@[go_sem] theorem tk84:Zel Tryz.prog 84=6:=by kernel_rfl
attribute [go_sem] Tryz.underlying85
@[go_sem] theorem tc85:Tryz.prog.cellsOf 85=10:=by kernel_rfl
@[go_sem] theorem tb85:Tryz.prog.bytesOf 85=192:=by kernel_rfl
@[go_sem] theorem tz85:pz Tryz.prog 85=some [.v (.slice none 0 0),.v (.slice none 0 0),.v (.int .i64 0),.v (.slice none 0 0),.v (.slice none 0 0),.v (.slice none 0 0),.v (.int .i64 0),.v (.slice none 0 0),.v (.slice none 0 0),.v (.int .i64 0)]:=by kernel_rfl
@[go_sem] theorem te85:Tryz.prog.eqGuardType Tryz.prog.depth 85=false:=by kernel_rfl
@[go_sem] theorem ts85:Tryz.prog.stoodInHeld 85=false:=by kernel_rfl
attribute [go_sem] Tryz.underlying86
@[go_sem] theorem tc86:Tryz.prog.cellsOf 86=10:=by kernel_rfl
@[go_sem] theorem tb86:Tryz.prog.bytesOf 86=192:=by kernel_rfl
@[go_sem] theorem tz86:pz Tryz.prog 86=some [.v (.slice none 0 0),.v (.slice none 0 0),.v (.int .i64 0),.v (.slice none 0 0),.v (.slice none 0 0),.v (.slice none 0 0),.v (.int .i64 0),.v (.slice none 0 0),.v (.slice none 0 0),.v (.int .i64 0)]:=by kernel_rfl
@[go_sem] theorem te86:Tryz.prog.eqGuardType Tryz.prog.depth 86=false:=by kernel_rfl
@[go_sem] theorem ts86:Tryz.prog.stoodInHeld 86=false:=by kernel_rfl
attribute [go_sem] Tryz.underlying87
@[go_sem] theorem tc87:Tryz.prog.cellsOf 87=1:=by kernel_rfl
@[go_sem] theorem tb87:Tryz.prog.bytesOf 87=24:=by kernel_rfl
@[go_sem] theorem tz87:pz Tryz.prog 87=some [.v (.slice none 0 0)]:=by kernel_rfl
@[go_sem] theorem tk87:Zel Tryz.prog 87=2:=by kernel_rfl
attribute [go_sem] Tryz.underlying88
@[go_sem] theorem tc88:Tryz.prog.cellsOf 88=1:=by kernel_rfl
@[go_sem] theorem tb88:Tryz.prog.bytesOf 88=24:=by kernel_rfl
@[go_sem] theorem tz88:pz Tryz.prog 88=some [.v (.slice none 0 0)]:=by kernel_rfl
@[go_sem] theorem tk88:Zel Tryz.prog 88=4:=by kernel_rfl
attribute [go_sem] Tryz.underlying89
@[go_sem] theorem tc89:Tryz.prog.cellsOf 89=1:=by kernel_rfl
@[go_sem] theorem tb89:Tryz.prog.bytesOf 89=24:=by kernel_rfl
@[go_sem] theorem tz89:pz Tryz.prog 89=some [.v (.slice none 0 0)]:=by kernel_rfl
@[go_sem] theorem tk89:Zel Tryz.prog 89=7:=by kernel_rfl
attribute [go_sem] Tryz.underlying90
@[go_sem] theorem tc90:Tryz.prog.cellsOf 90=1:=by kernel_rfl
@[go_sem] theorem tb90:Tryz.prog.bytesOf 90=24:=by kernel_rfl
@[go_sem] theorem tz90:pz Tryz.prog 90=some [.v (.slice none 0 0)]:=by kernel_rfl
@[go_sem] theorem tk90:Zel Tryz.prog 90=4:=by kernel_rfl
attribute [go_sem] Tryz.underlying91
@[go_sem] theorem tc91:Tryz.prog.cellsOf 91=16:=by kernel_rfl
@[go_sem] theorem tb91:Tryz.prog.bytesOf 91=336:=by kernel_rfl
@[go_sem] theorem tz91:pz Tryz.prog 91=some [.v (.slice none 0 0),.v (.slice none 0 0),.v (.int .i64 0),.v (.slice none 0 0),.v (.slice none 0 0),.v (.slice none 0 0),.v (.int .i64 0),.v (.slice none 0 0),.v (.slice none 0 0),.v (.int .i64 0),.v (.slice none 0 0),.v (.slice none 0 0),.v (.slice none 0 0),.v (.slice none 0 0),.v (.slice none 0 0),.v (.slice none 0 0)]:=by kernel_rfl
@[go_sem] theorem te91:Tryz.prog.eqGuardType Tryz.prog.depth 91=false:=by kernel_rfl
@[go_sem] theorem ts91:Tryz.prog.stoodInHeld 91=false:=by kernel_rfl
attribute [go_sem] Tryz.underlying92
@[go_sem] theorem tc92:Tryz.prog.cellsOf 92=16:=by kernel_rfl
@[go_sem] theorem tb92:Tryz.prog.bytesOf 92=336:=by kernel_rfl
@[go_sem] theorem tz92:pz Tryz.prog 92=some [.v (.slice none 0 0),.v (.slice none 0 0),.v (.int .i64 0),.v (.slice none 0 0),.v (.slice none 0 0),.v (.slice none 0 0),.v (.int .i64 0),.v (.slice none 0 0),.v (.slice none 0 0),.v (.int .i64 0),.v (.slice none 0 0),.v (.slice none 0 0),.v (.slice none 0 0),.v (.slice none 0 0),.v (.slice none 0 0),.v (.slice none 0 0)]:=by kernel_rfl
@[go_sem] theorem te92:Tryz.prog.eqGuardType Tryz.prog.depth 92=false:=by kernel_rfl
@[go_sem] theorem ts92:Tryz.prog.stoodInHeld 92=false:=by kernel_rfl
attribute [go_sem] Tryz.underlying101
@[go_sem] theorem Zz1:Tryz.prog.cellsOf 101=3:=by kernel_rfl
@[go_sem] theorem ZzH:Tryz.prog.bytesOf 101=40:=by kernel_rfl
@[go_sem] theorem ZAJ:pz Tryz.prog 101=some [.v (.slice none 0 0),.v (.int .i64 0),.v (.int .i64 0)]:=by kernel_rfl
@[go_sem] theorem ZAi:Tryz.prog.eqGuardType Tryz.prog.depth 101=false:=by kernel_rfl
@[go_sem] theorem ZAw:Tryz.prog.stoodInHeld 101=false:=by kernel_rfl
attribute [go_sem] Tryz.underlying102
@[go_sem] theorem Zz2:Tryz.prog.cellsOf 102=3:=by kernel_rfl
@[go_sem] theorem ZzI:Tryz.prog.bytesOf 102=40:=by kernel_rfl
@[go_sem] theorem ZAK:pz Tryz.prog 102=some [.v (.slice none 0 0),.v (.int .i64 0),.v (.int .i64 0)]:=by kernel_rfl
@[go_sem] theorem ZAj:Tryz.prog.eqGuardType Tryz.prog.depth 102=false:=by kernel_rfl
@[go_sem] theorem ZAx:Tryz.prog.stoodInHeld 102=false:=by kernel_rfl
attribute [go_sem] Tryz.underlying113
@[go_sem] theorem Zz3:Tryz.prog.cellsOf 113=1:=by kernel_rfl
@[go_sem] theorem ZzJ:Tryz.prog.bytesOf 113=8:=by kernel_rfl
@[go_sem] theorem ZAL:pz Tryz.prog 113=some [.v (.int .u64 0)]:=by kernel_rfl
attribute [go_sem] Tryz.underlying132
@[go_sem] theorem Zz4:Tryz.prog.cellsOf 132=6:=by kernel_rfl
@[go_sem] theorem ZzK:Tryz.prog.bytesOf 132=64:=by kernel_rfl
@[go_sem] theorem ZAM:pz Tryz.prog 132=some [.v (.string ⟨#[]⟩),.v (.string ⟨#[]⟩),.v (.int .i64 0),.v (.int .i64 0),.v (.int .i64 0),.v (.int .i64 0)]:=by kernel_rfl
@[go_sem] theorem ZAk:Tryz.prog.eqGuardType Tryz.prog.depth 132=false:=by kernel_rfl
@[go_sem] theorem ZAy:Tryz.prog.stoodInHeld 132=false:=by kernel_rfl
attribute [go_sem] Tryz.underlying133
@[go_sem] theorem ZxN:Tryz.prog.cellsOf 133=6:=by kernel_rfl
@[go_sem] theorem ZzL:Tryz.prog.bytesOf 133=64:=by kernel_rfl
@[go_sem] theorem ZAN:pz Tryz.prog 133=some [.v (.string ⟨#[]⟩),.v (.string ⟨#[]⟩),.v (.int .i64 0),.v (.int .i64 0),.v (.int .i64 0),.v (.int .i64 0)]:=by kernel_rfl
@[go_sem] theorem Zw8:Tryz.prog.eqGuardType Tryz.prog.depth 133=false:=by kernel_rfl
@[go_sem] theorem ZxQ:Tryz.prog.stoodInHeld 133=false:=by kernel_rfl
attribute [go_sem] Tryz.underlying134
@[go_sem] theorem Zz5:Tryz.prog.cellsOf 134=2:=by kernel_rfl
@[go_sem] theorem ZzM:Tryz.prog.bytesOf 134=32:=by kernel_rfl
@[go_sem] theorem ZAO:pz Tryz.prog 134=some [.v (.string ⟨#[]⟩),.v (.string ⟨#[]⟩)]:=by kernel_rfl
@[go_sem] theorem ZAl:Tryz.prog.eqGuardType Tryz.prog.depth 134=false:=by kernel_rfl
@[go_sem] theorem ZAz:Tryz.prog.stoodInHeld 134=false:=by kernel_rfl
attribute [go_sem] Tryz.underlying135
@[go_sem] theorem Zz6:Tryz.prog.cellsOf 135=2:=by kernel_rfl
@[go_sem] theorem ZzN:Tryz.prog.bytesOf 135=32:=by kernel_rfl
@[go_sem] theorem ZAP:pz Tryz.prog 135=some [.v (.string ⟨#[]⟩),.v (.string ⟨#[]⟩)]:=by kernel_rfl
@[go_sem] theorem ZAm:Tryz.prog.eqGuardType Tryz.prog.depth 135=false:=by kernel_rfl
@[go_sem] theorem ZAA:Tryz.prog.stoodInHeld 135=false:=by kernel_rfl
attribute [go_sem] Tryz.underlying136
@[go_sem] theorem Zz7:Tryz.prog.cellsOf 136=4:=by kernel_rfl
@[go_sem] theorem ZzO:Tryz.prog.bytesOf 136=32:=by kernel_rfl
@[go_sem] theorem ZAQ:pz Tryz.prog 136=some [.v (.int .i64 0),.v (.int .i64 0),.v (.int .i64 0),.v (.int .i64 0)]:=by kernel_rfl
@[go_sem] theorem ZAn:Tryz.prog.eqGuardType Tryz.prog.depth 136=false:=by kernel_rfl
@[go_sem] theorem ZAB:Tryz.prog.stoodInHeld 136=false:=by kernel_rfl
attribute [go_sem] Tryz.underlying137
@[go_sem] theorem Zz8:Tryz.prog.cellsOf 137=4:=by kernel_rfl
@[go_sem] theorem ZzP:Tryz.prog.bytesOf 137=32:=by kernel_rfl
@[go_sem] theorem ZAR:pz Tryz.prog 137=some [.v (.int .i64 0),.v (.int .i64 0),.v (.int .i64 0),.v (.int .i64 0)]:=by kernel_rfl
@[go_sem] theorem ZAo:Tryz.prog.eqGuardType Tryz.prog.depth 137=false:=by kernel_rfl
@[go_sem] theorem ZAC:Tryz.prog.stoodInHeld 137=false:=by kernel_rfl
attribute [go_sem] Tryz.underlying154
@[go_sem] theorem Zz9:Tryz.prog.cellsOf 154=1:=by kernel_rfl
@[go_sem] theorem ZzQ:Tryz.prog.bytesOf 154=4:=by kernel_rfl
@[go_sem] theorem ZAS:pz Tryz.prog 154=some [.v (.int .u32 0)]:=by kernel_rfl
attribute [go_sem] Tryz.underlying157
@[go_sem] theorem ZAa:Tryz.prog.cellsOf 157=1:=by kernel_rfl
@[go_sem] theorem ZzR:Tryz.prog.bytesOf 157=8:=by kernel_rfl
@[go_sem] theorem ZAT:pz Tryz.prog 157=some [.v (.int .u64 0)]:=by kernel_rfl
attribute [go_sem] Tryz.underlying174
@[go_sem] theorem ZAb:Tryz.prog.cellsOf 174=4:=by kernel_rfl
@[go_sem] theorem ZzS:Tryz.prog.bytesOf 174=32:=by kernel_rfl
@[go_sem] theorem ZAU:pz Tryz.prog 174=some [.v (.int .i64 0),.v (.int .i64 0),.v (.int .i64 0),.v (.int .i64 0)]:=by kernel_rfl
@[go_sem] theorem ZAp:Tryz.prog.eqGuardType Tryz.prog.depth 174=false:=by kernel_rfl
@[go_sem] theorem ZAD:Tryz.prog.stoodInHeld 174=false:=by kernel_rfl
attribute [go_sem] Tryz.underlying175
@[go_sem] theorem ZxO:Tryz.prog.cellsOf 175=4:=by kernel_rfl
@[go_sem] theorem ZzT:Tryz.prog.bytesOf 175=32:=by kernel_rfl
@[go_sem] theorem ZAV:pz Tryz.prog 175=some [.v (.int .i64 0),.v (.int .i64 0),.v (.int .i64 0),.v (.int .i64 0)]:=by kernel_rfl
@[go_sem] theorem Zw9:Tryz.prog.eqGuardType Tryz.prog.depth 175=false:=by kernel_rfl
@[go_sem] theorem ZxR:Tryz.prog.stoodInHeld 175=false:=by kernel_rfl
attribute [go_sem] Tryz.underlying180
@[go_sem] theorem ZAc:Tryz.prog.cellsOf 180=1:=by kernel_rfl
@[go_sem] theorem ZzU:Tryz.prog.bytesOf 180=24:=by kernel_rfl
@[go_sem] theorem ZAW:pz Tryz.prog 180=some [.v (.slice none 0 0)]:=by kernel_rfl
@[go_sem] theorem ZAv:Zel Tryz.prog 180=1:=by kernel_rfl
attribute [go_sem] Tryz.underlying187
@[go_sem] theorem ZAd:Tryz.prog.cellsOf 187=4:=by kernel_rfl
@[go_sem] theorem ZzV:Tryz.prog.bytesOf 187=32:=by kernel_rfl
@[go_sem] theorem ZAX:pz Tryz.prog 187=some [.v (.int .i64 0),.v (.int .i64 0),.v (.int .i64 0),.v (.int .i64 0)]:=by kernel_rfl
@[go_sem] theorem ZAq:Tryz.prog.eqGuardType Tryz.prog.depth 187=false:=by kernel_rfl
@[go_sem] theorem ZAE:Tryz.prog.stoodInHeld 187=false:=by kernel_rfl
attribute [go_sem] Tryz.underlying188
@[go_sem] theorem ZAe:Tryz.prog.cellsOf 188=4:=by kernel_rfl
@[go_sem] theorem ZzW:Tryz.prog.bytesOf 188=32:=by kernel_rfl
@[go_sem] theorem ZAY:pz Tryz.prog 188=some [.v (.int .i64 0),.v (.int .i64 0),.v (.int .i64 0),.v (.int .i64 0)]:=by kernel_rfl
@[go_sem] theorem ZAr:Tryz.prog.eqGuardType Tryz.prog.depth 188=false:=by kernel_rfl
@[go_sem] theorem ZAF:Tryz.prog.stoodInHeld 188=false:=by kernel_rfl
attribute [go_sem] Tryz.underlying225
@[go_sem] theorem ZAf:Tryz.prog.cellsOf 225=11:=by kernel_rfl
@[go_sem] theorem ZzX:Tryz.prog.bytesOf 225=128:=by kernel_rfl
@[go_sem] theorem ZAZ:pz Tryz.prog 225=some [.v (.string ⟨#[]⟩),.v (.string ⟨#[]⟩),.v (.int .i64 0),.v (.int .i64 0),.v (.int .i64 0),.v (.int .i64 0),.v (.slice none 0 0),.v (.int .i64 0),.v (.int .i64 0),.v (.string ⟨#[]⟩),.v (.int .i64 0)]:=by kernel_rfl
@[go_sem] theorem ZAs:Tryz.prog.eqGuardType Tryz.prog.depth 225=false:=by kernel_rfl
@[go_sem] theorem ZAG:Tryz.prog.stoodInHeld 225=false:=by kernel_rfl
attribute [go_sem] Tryz.underlying226
@[go_sem] theorem ZAg:Tryz.prog.cellsOf 226=11:=by kernel_rfl
@[go_sem] theorem ZzY:Tryz.prog.bytesOf 226=128:=by kernel_rfl
@[go_sem] theorem ZA0:pz Tryz.prog 226=some [.v (.string ⟨#[]⟩),.v (.string ⟨#[]⟩),.v (.int .i64 0),.v (.int .i64 0),.v (.int .i64 0),.v (.int .i64 0),.v (.slice none 0 0),.v (.int .i64 0),.v (.int .i64 0),.v (.string ⟨#[]⟩),.v (.int .i64 0)]:=by kernel_rfl
@[go_sem] theorem ZAt:Tryz.prog.eqGuardType Tryz.prog.depth 226=false:=by kernel_rfl
@[go_sem] theorem ZAH:Tryz.prog.stoodInHeld 226=false:=by kernel_rfl
attribute [go_sem] Tryz.underlying232
@[go_sem] theorem ZAh:Tryz.prog.cellsOf 232=6:=by kernel_rfl
@[go_sem] theorem ZzZ:Tryz.prog.bytesOf 232=56:=by kernel_rfl
@[go_sem] theorem ZA1:pz Tryz.prog 232=some [.v (.int .i64 0),.v (.int .i64 0),.v (.int .i64 0),.v (.string ⟨#[]⟩),.v (.int .i64 0),.v (.int .i64 0)]:=by kernel_rfl
@[go_sem] theorem ZAu:Tryz.prog.eqGuardType Tryz.prog.depth 232=false:=by kernel_rfl
@[go_sem] theorem ZAI:Tryz.prog.stoodInHeld 232=false:=by kernel_rfl
attribute [go_sem] Tryz.underlying233
@[go_sem] theorem ZxP:Tryz.prog.cellsOf 233=6:=by kernel_rfl
@[go_sem] theorem Zz0:Tryz.prog.bytesOf 233=56:=by kernel_rfl
@[go_sem] theorem ZA2:pz Tryz.prog 233=some [.v (.int .i64 0),.v (.int .i64 0),.v (.int .i64 0),.v (.string ⟨#[]⟩),.v (.int .i64 0),.v (.int .i64 0)]:=by kernel_rfl
@[go_sem] theorem Zxa:Tryz.prog.eqGuardType Tryz.prog.depth 233=false:=by kernel_rfl
@[go_sem] theorem ZxS:Tryz.prog.stoodInHeld 233=false:=by kernel_rfl
@[go_sem] theorem fn3:isFn Tryz.prog 3:=⟨_,Tryz.func3,rfl,by kernel_rfl⟩
@[go_sem] theorem fn4:isFn Tryz.prog 4:=⟨_,Tryz.func4,rfl,by kernel_rfl⟩
@[go_sem] theorem fn5:isFn Tryz.prog 5:=⟨_,Tryz.func5,rfl,by kernel_rfl⟩
@[go_sem] theorem fn6:isFn Tryz.prog 6:=⟨_,Tryz.func6,rfl,by kernel_rfl⟩
@[go_sem] theorem fn7:isFn Tryz.prog 7:=⟨_,Tryz.func7,rfl,by kernel_rfl⟩
@[go_sem] theorem fn8:isFn Tryz.prog 8:=⟨_,Tryz.func8,rfl,by kernel_rfl⟩
@[go_sem] theorem fn9:isFn Tryz.prog 9:=⟨_,Tryz.func9,rfl,by kernel_rfl⟩
@[go_sem] theorem fn10:isFn Tryz.prog 10:=⟨_,Tryz.func10,rfl,by kernel_rfl⟩
@[go_sem] theorem fn11:isFn Tryz.prog 11:=⟨_,Tryz.func11,rfl,by kernel_rfl⟩
@[go_sem] theorem fn12:isFn Tryz.prog 12:=⟨_,Tryz.func12,rfl,by kernel_rfl⟩
@[go_sem] theorem fn13:isFn Tryz.prog 13:=⟨_,Tryz.func13,rfl,by kernel_rfl⟩
@[go_sem] theorem fn14:isFn Tryz.prog 14:=⟨_,Tryz.func14,rfl,by kernel_rfl⟩
@[go_sem] theorem fn15:isFn Tryz.prog 15:=⟨_,Tryz.func15,rfl,by kernel_rfl⟩
@[go_sem] theorem fn16:isFn Tryz.prog 16:=⟨_,Tryz.func16,rfl,by kernel_rfl⟩
@[go_sem] theorem fn17:isFn Tryz.prog 17:=⟨_,Tryz.func17,rfl,by kernel_rfl⟩
@[go_sem] theorem fn18:isFn Tryz.prog 18:=⟨_,Tryz.func18,rfl,by kernel_rfl⟩
@[go_sem] theorem fn19:isFn Tryz.prog 19:=⟨_,Tryz.func19,rfl,by kernel_rfl⟩
@[go_sem] theorem fn20:isFn Tryz.prog 20:=⟨_,Tryz.func20,rfl,by kernel_rfl⟩
@[go_sem] theorem fn21:isFn Tryz.prog 21:=⟨_,Tryz.func21,rfl,by kernel_rfl⟩
@[go_sem] theorem fn22:isFn Tryz.prog 22:=⟨_,Tryz.func22,rfl,by kernel_rfl⟩
@[go_sem] theorem fn23:isFn Tryz.prog 23:=⟨_,Tryz.func23,rfl,by kernel_rfl⟩
@[go_sem] theorem fn24:isFn Tryz.prog 24:=⟨_,Tryz.func24,rfl,by kernel_rfl⟩
@[go_sem] theorem fn25:isFn Tryz.prog 25:=⟨_,Tryz.func25,rfl,by kernel_rfl⟩
@[go_sem] theorem fn27:isFn Tryz.prog 27:=⟨_,Tryz.func27,rfl,by kernel_rfl⟩
@[go_sem] theorem fn28:isFn Tryz.prog 28:=⟨_,Tryz.func28,rfl,by kernel_rfl⟩
@[go_sem] theorem fn29:isFn Tryz.prog 29:=⟨_,Tryz.func29,rfl,by kernel_rfl⟩
@[go_sem] theorem fn30:isFn Tryz.prog 30:=⟨_,Tryz.func30,rfl,by kernel_rfl⟩
@[go_sem] theorem fn31:isFn Tryz.prog 31:=⟨_,Tryz.func31,rfl,by kernel_rfl⟩
@[go_sem] theorem fn32:isFn Tryz.prog 32:=⟨_,Tryz.func32,rfl,by kernel_rfl⟩
@[go_sem] theorem fn33:isFn Tryz.prog 33:=⟨_,Tryz.func33,rfl,by kernel_rfl⟩
@[go_sem] theorem fn35:isFn Tryz.prog 35:=⟨_,Tryz.func35,rfl,by kernel_rfl⟩
@[go_sem] theorem fn36:isFn Tryz.prog 36:=⟨_,Tryz.func36,rfl,by kernel_rfl⟩
@[go_sem] theorem fn37:isFn Tryz.prog 37:=⟨_,Tryz.func37,rfl,by kernel_rfl⟩
@[go_sem] theorem fn38:isFn Tryz.prog 38:=⟨_,Tryz.func38,rfl,by kernel_rfl⟩
@[go_sem] theorem fn39:isFn Tryz.prog 39:=⟨_,Tryz.func39,rfl,by kernel_rfl⟩
@[go_sem] theorem fn40:isFn Tryz.prog 40:=⟨_,Tryz.func40,rfl,by kernel_rfl⟩
@[go_sem] theorem fn41:isFn Tryz.prog 41:=⟨_,Tryz.func41,rfl,by kernel_rfl⟩
@[go_sem] theorem fn42:isFn Tryz.prog 42:=⟨_,Tryz.func42,rfl,by kernel_rfl⟩
@[go_sem] theorem fn43:isFn Tryz.prog 43:=⟨_,Tryz.func43,rfl,by kernel_rfl⟩
@[go_sem] theorem fn44:isFn Tryz.prog 44:=⟨_,Tryz.func44,rfl,by kernel_rfl⟩
@[go_sem] theorem fn45:isFn Tryz.prog 45:=⟨_,Tryz.func45,rfl,by kernel_rfl⟩
@[go_sem] theorem fn46:isFn Tryz.prog 46:=⟨_,Tryz.func46,rfl,by kernel_rfl⟩
@[go_sem] theorem fn47:isFn Tryz.prog 47:=⟨_,Tryz.func47,rfl,by kernel_rfl⟩
@[go_sem] theorem fn48:isFn Tryz.prog 48:=⟨_,Tryz.func48,rfl,by kernel_rfl⟩
@[go_sem] theorem fn49:isFn Tryz.prog 49:=⟨_,Tryz.func49,rfl,by kernel_rfl⟩
@[go_sem] theorem fn51:isFn Tryz.prog 51:=⟨_,Tryz.func51,rfl,by kernel_rfl⟩
@[go_sem] theorem fn54:isFn Tryz.prog 54:=⟨_,Tryz.func54,rfl,by kernel_rfl⟩
@[go_sem] theorem fn55:isFn Tryz.prog 55:=⟨_,Tryz.func55,rfl,by kernel_rfl⟩
@[go_sem] theorem fn57:isFn Tryz.prog 57:=⟨_,Tryz.func57,rfl,by kernel_rfl⟩
@[go_sem] theorem fn58:isFn Tryz.prog 58:=⟨_,Tryz.func58,rfl,by kernel_rfl⟩
@[go_sem] theorem fn59:isFn Tryz.prog 59:=⟨_,Tryz.func59,rfl,by kernel_rfl⟩
@[go_sem] theorem fn60:isFn Tryz.prog 60:=⟨_,Tryz.func60,rfl,by kernel_rfl⟩
@[go_sem] theorem fn61:isFn Tryz.prog 61:=⟨_,Tryz.func61,rfl,by kernel_rfl⟩
@[go_sem] theorem fn62:isFn Tryz.prog 62:=⟨_,Tryz.func62,rfl,by kernel_rfl⟩
@[go_sem] theorem fn63:isFn Tryz.prog 63:=⟨_,Tryz.func63,rfl,by kernel_rfl⟩
@[go_sem] theorem fn64:isFn Tryz.prog 64:=⟨_,Tryz.func64,rfl,by kernel_rfl⟩
@[go_sem] theorem fn65:isFn Tryz.prog 65:=⟨_,Tryz.func65,rfl,by kernel_rfl⟩
@[go_sem] theorem fn66:isFn Tryz.prog 66:=⟨_,Tryz.func66,rfl,by kernel_rfl⟩
@[go_sem] theorem fn67:isFn Tryz.prog 67:=⟨_,Tryz.func67,rfl,by kernel_rfl⟩
@[go_sem] theorem fn68:isFn Tryz.prog 68:=⟨_,Tryz.func68,rfl,by kernel_rfl⟩
@[go_sem] theorem fn69:isFn Tryz.prog 69:=⟨_,Tryz.func69,rfl,by kernel_rfl⟩
@[go_sem] theorem fn70:isFn Tryz.prog 70:=⟨_,Tryz.func70,rfl,by kernel_rfl⟩
@[go_sem] theorem fn78:isFn Tryz.prog 78:=⟨_,Tryz.func78,rfl,by kernel_rfl⟩
@[go_sem] theorem fn79:isFn Tryz.prog 79:=⟨_,Tryz.func79,rfl,by kernel_rfl⟩
@[go_sem] theorem fn80:isFn Tryz.prog 80:=⟨_,Tryz.func80,rfl,by kernel_rfl⟩
@[go_sem] theorem fn81:isFn Tryz.prog 81:=⟨_,Tryz.func81,rfl,by kernel_rfl⟩
@[go_sem] theorem fn82:isFn Tryz.prog 82:=⟨_,Tryz.func82,rfl,by kernel_rfl⟩
@[go_sem] theorem fn83:isFn Tryz.prog 83:=⟨_,Tryz.func83,rfl,by kernel_rfl⟩
@[go_sem] theorem fn84:isFn Tryz.prog 84:=⟨_,Tryz.func84,rfl,by kernel_rfl⟩
@[go_sem] theorem fn85:isFn Tryz.prog 85:=⟨_,Tryz.func85,rfl,by kernel_rfl⟩
@[go_sem] theorem fn86:isFn Tryz.prog 86:=⟨_,Tryz.func86,rfl,by kernel_rfl⟩
@[go_sem] theorem fn87:isFn Tryz.prog 87:=⟨_,Tryz.func87,rfl,by kernel_rfl⟩
@[go_sem] theorem fn88:isFn Tryz.prog 88:=⟨_,Tryz.func88,rfl,by kernel_rfl⟩
@[go_sem] theorem fn89:isFn Tryz.prog 89:=⟨_,Tryz.func89,rfl,by kernel_rfl⟩
@[go_sem] theorem fn90:isFn Tryz.prog 90:=⟨_,Tryz.func90,rfl,by kernel_rfl⟩
@[go_sem] theorem fn91:isFn Tryz.prog 91:=⟨_,Tryz.func91,rfl,by kernel_rfl⟩
@[go_sem] theorem Zx8:isFn Tryz.prog 105:=⟨_,Tryz.func105,rfl,by kernel_rfl⟩
@[go_sem] theorem Zx9:isFn Tryz.prog 106:=⟨_,Tryz.func106,rfl,by kernel_rfl⟩
@[go_sem] theorem Zya:isFn Tryz.prog 107:=⟨_,Tryz.func107,rfl,by kernel_rfl⟩
@[go_sem] theorem Zyb:isFn Tryz.prog 108:=⟨_,Tryz.func108,rfl,by kernel_rfl⟩
@[go_sem] theorem Zyc:isFn Tryz.prog 109:=⟨_,Tryz.func109,rfl,by kernel_rfl⟩
@[go_sem] theorem Zyd:isFn Tryz.prog 110:=⟨_,Tryz.func110,rfl,by kernel_rfl⟩
@[go_sem] theorem Zye:isFn Tryz.prog 111:=⟨_,Tryz.func111,rfl,by kernel_rfl⟩
@[go_sem] theorem Zyf:isFn Tryz.prog 112:=⟨_,Tryz.func112,rfl,by kernel_rfl⟩
@[go_sem] theorem Zyg:isFn Tryz.prog 113:=⟨_,Tryz.func113,rfl,by kernel_rfl⟩
@[go_sem] theorem Zyh:isFn Tryz.prog 114:=⟨_,Tryz.func114,rfl,by kernel_rfl⟩
@[go_sem] theorem Zyi:isFn Tryz.prog 115:=⟨_,Tryz.func115,rfl,by kernel_rfl⟩
@[go_sem] theorem Zyj:isFn Tryz.prog 116:=⟨_,Tryz.func116,rfl,by kernel_rfl⟩
@[go_sem] theorem Zyk:isFn Tryz.prog 117:=⟨_,Tryz.func117,rfl,by kernel_rfl⟩
@[go_sem] theorem Zyl:isFn Tryz.prog 118:=⟨_,Tryz.func118,rfl,by kernel_rfl⟩
@[go_sem] theorem Zym:isFn Tryz.prog 120:=⟨_,Tryz.func120,rfl,by kernel_rfl⟩
@[go_sem] theorem Zyn:isFn Tryz.prog 121:=⟨_,Tryz.func121,rfl,by kernel_rfl⟩
@[go_sem] theorem Zyo:isFn Tryz.prog 124:=⟨_,Tryz.func124,rfl,by kernel_rfl⟩
@[go_sem] theorem Zyp:isFn Tryz.prog 125:=⟨_,Tryz.func125,rfl,by kernel_rfl⟩
@[go_sem] theorem Zyq:isFn Tryz.prog 126:=⟨_,Tryz.func126,rfl,by kernel_rfl⟩
@[go_sem] theorem Zyr:isFn Tryz.prog 137:=⟨_,Tryz.func137,rfl,by kernel_rfl⟩
@[go_sem] theorem Zys:isFn Tryz.prog 138:=⟨_,Tryz.func138,rfl,by kernel_rfl⟩
@[go_sem] theorem Zyt:isFn Tryz.prog 139:=⟨_,Tryz.func139,rfl,by kernel_rfl⟩
@[go_sem] theorem Zyu:isFn Tryz.prog 140:=⟨_,Tryz.func140,rfl,by kernel_rfl⟩
@[go_sem] theorem Zyv:isFn Tryz.prog 141:=⟨_,Tryz.func141,rfl,by kernel_rfl⟩
@[go_sem] theorem Zyw:isFn Tryz.prog 142:=⟨_,Tryz.func142,rfl,by kernel_rfl⟩
@[go_sem] theorem Zyx:isFn Tryz.prog 143:=⟨_,Tryz.func143,rfl,by kernel_rfl⟩
@[go_sem] theorem Zyy:isFn Tryz.prog 144:=⟨_,Tryz.func144,rfl,by kernel_rfl⟩
@[go_sem] theorem Zyz:isFn Tryz.prog 145:=⟨_,Tryz.func145,rfl,by kernel_rfl⟩
@[go_sem] theorem ZyA:isFn Tryz.prog 146:=⟨_,Tryz.func146,rfl,by kernel_rfl⟩
@[go_sem] theorem ZyB:isFn Tryz.prog 147:=⟨_,Tryz.func147,rfl,by kernel_rfl⟩
@[go_sem] theorem ZyC:isFn Tryz.prog 148:=⟨_,Tryz.func148,rfl,by kernel_rfl⟩
@[go_sem] theorem ZyD:isFn Tryz.prog 149:=⟨_,Tryz.func149,rfl,by kernel_rfl⟩
@[go_sem] theorem ZyE:isFn Tryz.prog 150:=⟨_,Tryz.func150,rfl,by kernel_rfl⟩
@[go_sem] theorem ZyF:isFn Tryz.prog 151:=⟨_,Tryz.func151,rfl,by kernel_rfl⟩
@[go_sem] theorem ZyG:isFn Tryz.prog 152:=⟨_,Tryz.func152,rfl,by kernel_rfl⟩
@[go_sem] theorem ZyH:isFn Tryz.prog 153:=⟨_,Tryz.func153,rfl,by kernel_rfl⟩
@[go_sem] theorem ZyI:isFn Tryz.prog 154:=⟨_,Tryz.func154,rfl,by kernel_rfl⟩
@[go_sem] theorem ZyJ:isFn Tryz.prog 155:=⟨_,Tryz.func155,rfl,by kernel_rfl⟩
@[go_sem] theorem ZyK:isFn Tryz.prog 156:=⟨_,Tryz.func156,rfl,by kernel_rfl⟩
@[go_sem] theorem ZyL:isFn Tryz.prog 157:=⟨_,Tryz.func157,rfl,by kernel_rfl⟩
@[go_sem] theorem ZyM:isFn Tryz.prog 174:=⟨_,Tryz.func174,rfl,by kernel_rfl⟩
@[go_sem] theorem ZyN:isFn Tryz.prog 175:=⟨_,Tryz.func175,rfl,by kernel_rfl⟩
@[go_sem] theorem ZyO:isFn Tryz.prog 176:=⟨_,Tryz.func176,rfl,by kernel_rfl⟩
@[go_sem] theorem ZyP:isFn Tryz.prog 177:=⟨_,Tryz.func177,rfl,by kernel_rfl⟩
@[go_sem] theorem ZyQ:isFn Tryz.prog 178:=⟨_,Tryz.func178,rfl,by kernel_rfl⟩
@[go_sem] theorem ZyR:isFn Tryz.prog 179:=⟨_,Tryz.func179,rfl,by kernel_rfl⟩
@[go_sem] theorem ZyS:isFn Tryz.prog 180:=⟨_,Tryz.func180,rfl,by kernel_rfl⟩
@[go_sem] theorem ZyT:isFn Tryz.prog 181:=⟨_,Tryz.func181,rfl,by kernel_rfl⟩
@[go_sem] theorem ZyU:isFn Tryz.prog 182:=⟨_,Tryz.func182,rfl,by kernel_rfl⟩
@[go_sem] theorem ZyV:isFn Tryz.prog 183:=⟨_,Tryz.func183,rfl,by kernel_rfl⟩
@[go_sem] theorem ZyW:isFn Tryz.prog 184:=⟨_,Tryz.func184,rfl,by kernel_rfl⟩
@[go_sem] theorem ZyX:isFn Tryz.prog 185:=⟨_,Tryz.func185,rfl,by kernel_rfl⟩
@[go_sem] theorem ZyY:isFn Tryz.prog 186:=⟨_,Tryz.func186,rfl,by kernel_rfl⟩
@[go_sem] theorem ZyZ:isFn Tryz.prog 187:=⟨_,Tryz.func187,rfl,by kernel_rfl⟩
@[go_sem] theorem Zy0:isFn Tryz.prog 188:=⟨_,Tryz.func188,rfl,by kernel_rfl⟩
@[go_sem] theorem Zy1:isFn Tryz.prog 189:=⟨_,Tryz.func189,rfl,by kernel_rfl⟩
@[go_sem] theorem Zy2:isFn Tryz.prog 190:=⟨_,Tryz.func190,rfl,by kernel_rfl⟩
@[go_sem] theorem Zy3:isFn Tryz.prog 191:=⟨_,Tryz.func191,rfl,by kernel_rfl⟩
@[go_sem] theorem Zy4:isFn Tryz.prog 192:=⟨_,Tryz.func192,rfl,by kernel_rfl⟩
@[go_sem] theorem Zy5:isFn Tryz.prog 193:=⟨_,Tryz.func193,rfl,by kernel_rfl⟩
@[go_sem] theorem Zy6:isFn Tryz.prog 194:=⟨_,Tryz.func194,rfl,by kernel_rfl⟩
@[go_sem] theorem Zy7:isFn Tryz.prog 195:=⟨_,Tryz.func195,rfl,by kernel_rfl⟩
@[go_sem] theorem Zy8:isFn Tryz.prog 196:=⟨_,Tryz.func196,rfl,by kernel_rfl⟩
@[go_sem] theorem Zy9:isFn Tryz.prog 213:=⟨_,Tryz.func213,rfl,by kernel_rfl⟩
@[go_sem] theorem Zza:isFn Tryz.prog 214:=⟨_,Tryz.func214,rfl,by kernel_rfl⟩
@[go_sem] theorem Zzb:isFn Tryz.prog 215:=⟨_,Tryz.func215,rfl,by kernel_rfl⟩
@[go_sem] theorem Zzc:isFn Tryz.prog 216:=⟨_,Tryz.func216,rfl,by kernel_rfl⟩
@[go_sem] theorem Zzd:isFn Tryz.prog 217:=⟨_,Tryz.func217,rfl,by kernel_rfl⟩
@[go_sem] theorem Zze:isFn Tryz.prog 218:=⟨_,Tryz.func218,rfl,by kernel_rfl⟩
@[go_sem] theorem Zzf:isFn Tryz.prog 219:=⟨_,Tryz.func219,rfl,by kernel_rfl⟩
@[go_sem] theorem Zzg:isFn Tryz.prog 220:=⟨_,Tryz.func220,rfl,by kernel_rfl⟩
@[go_sem] theorem Zzh:isFn Tryz.prog 221:=⟨_,Tryz.func221,rfl,by kernel_rfl⟩
@[go_sem] theorem Zzi:isFn Tryz.prog 222:=⟨_,Tryz.func222,rfl,by kernel_rfl⟩
@[go_sem] theorem Zzj:isFn Tryz.prog 223:=⟨_,Tryz.func223,rfl,by kernel_rfl⟩
@[go_sem] theorem Zzk:isFn Tryz.prog 224:=⟨_,Tryz.func224,rfl,by kernel_rfl⟩
@[go_sem] theorem Zzl:isFn Tryz.prog 225:=⟨_,Tryz.func225,rfl,by kernel_rfl⟩
@[go_sem] theorem Zzm:isFn Tryz.prog 226:=⟨_,Tryz.func226,rfl,by kernel_rfl⟩
@[go_sem] theorem Zzn:isFn Tryz.prog 227:=⟨_,Tryz.func227,rfl,by kernel_rfl⟩
@[go_sem] theorem Zzo:isFn Tryz.prog 228:=⟨_,Tryz.func228,rfl,by kernel_rfl⟩
@[go_sem] theorem Zzp:isFn Tryz.prog 229:=⟨_,Tryz.func229,rfl,by kernel_rfl⟩
@[go_sem] theorem Zzq:isFn Tryz.prog 230:=⟨_,Tryz.func230,rfl,by kernel_rfl⟩
@[go_sem] theorem Zzr:isFn Tryz.prog 231:=⟨_,Tryz.func231,rfl,by kernel_rfl⟩
@[go_sem] theorem Zzs:isFn Tryz.prog 232:=⟨_,Tryz.func232,rfl,by kernel_rfl⟩
@[go_sem] theorem Zzt:isFn Tryz.prog 233:=⟨_,Tryz.func233,rfl,by kernel_rfl⟩
@[go_sem] theorem Zzu:isFn Tryz.prog 241:=⟨_,Tryz.func241,rfl,by kernel_rfl⟩
@[go_sem] theorem Zzv:isFn Tryz.prog 242:=⟨_,Tryz.func242,rfl,by kernel_rfl⟩
@[go_sem] theorem Zzw:isFn Tryz.prog 243:=⟨_,Tryz.func243,rfl,by kernel_rfl⟩
@[go_sem] theorem Zzx:isFn Tryz.prog 244:=⟨_,Tryz.func244,rfl,by kernel_rfl⟩
@[go_sem] theorem Zzy:isFn Tryz.prog 245:=⟨_,Tryz.func245,rfl,by kernel_rfl⟩
@[go_sem] theorem Zzz:isFn Tryz.prog 246:=⟨_,Tryz.func246,rfl,by kernel_rfl⟩
@[go_sem] theorem ZzA:isFn Tryz.prog 248:=⟨_,Tryz.func248,rfl,by kernel_rfl⟩
@[go_sem] theorem ZzB:isFn Tryz.prog 249:=⟨_,Tryz.func249,rfl,by kernel_rfl⟩
@[go_sem] theorem ZzC:isFn Tryz.prog 250:=⟨_,Tryz.func250,rfl,by kernel_rfl⟩
@[go_sem] theorem ZzD:isFn Tryz.prog 251:=⟨_,Tryz.func251,rfl,by kernel_rfl⟩
@[go_sem] theorem ZzE:isFn Tryz.prog 252:=⟨_,Tryz.func252,rfl,by kernel_rfl⟩
@[go_sem] theorem ZzF:isFn Tryz.prog 253:=⟨_,Tryz.func253,rfl,by kernel_rfl⟩
/-! What the rewriting need not go into. -/
@[congr] theorem Zxx {P:Program} {ops:Array Oper} {K:List PV→Mem→Prop} {rest:List Oper} {t:List PV} {t':List PV} {m:Mem} {m':Mem} (h_t:t=t') (h_m:m=m'):pops P ops K rest t m=pops P ops K rest t' m':=by subst h_t h_m; rfl
@[congr] theorem Zxh {P:Program} {wd:Nat} {base:Nat} {fl:List Nat} {ops:Array Oper} {KD:List LE→List PV→Mem→Prop} {i:Nat} {rest:List Oper} {g:List LE} {g':List LE} {t:List PV} {t':List PV} {m:Mem} {m':Mem} (h_t:t=t') (h_m:m=m') (h_g:g=g'):Zee P wd base fl ops KD i rest g t m=Zee P wd base fl ops KD i rest g' t' m':=by subst h_t h_m h_g; rfl
@[congr] theorem ZxY {P:Program} {ops:Array Oper} {K:List PV→Mem→Prop} {rest:List Oper} {t:List PV} {t':List PV} {d:Option Tmp} {p:PV} {p':PV} {m:Mem} {m':Mem} (h_t:t=t') (h_p:p=p') (h_m:m=m'):nxt P ops K rest t d p m=nxt P ops K rest t' d p' m':=by subst h_t h_p h_m; rfl
@[congr] theorem ZxW {P:Program} {wd:Nat} {base:Nat} {fl:List Nat} {ops:Array Oper} {KD:List LE→List PV→Mem→Prop} {i:Nat} {rest:List Oper} {g:List LE} {g':List LE} {t:List PV} {t':List PV} {d:Option Tmp} {p:PV} {p':PV} {m:Mem} {m':Mem} (h_t:t=t') (h_p:p=p') (h_m:m=m') (h_g:g=g'):nxd P wd base fl ops KD i rest g t d p m=nxd P wd base fl ops KD i rest g' t' d p' m':=by subst h_t h_p h_m h_g; rfl
@[congr] theorem Zx6 {P:Program} {ops:Array Oper} {K:List PV→Mem→Prop} {rest:List Oper} {d:Option Tmp} {o:Op} {m:Mem} {m':Mem} {t:List PV} {t':List PV} (h_m:m=m') (h_t:t=t'):rgo P ops K rest d o m t=rgo P ops K rest d o m' t':=by subst h_m h_t; rfl
@[congr] theorem Zx2 {P:Program} {ops:Array Oper} {K:List PV→Mem→Prop} {rest:List Oper} {d:Option Tmp} {m:Mem} {m':Mem} {t:List PV} {t':List PV} (h_m:m=m') (h_t:t=t'):pgo P ops K rest d m t=pgo P ops K rest d m' t':=by subst h_m h_t; rfl
@[congr] theorem Zx5 {P:Program} {wd:Nat} {base:Nat} {fl:List Nat} {ops:Array Oper} {KD:List LE→List PV→Mem→Prop} {i:Nat} {rest:List Oper} {g:List LE} {oo:Oper} {m:Mem} {m':Mem} {t:List PV} {t':List PV} (h_m:m=m') (h_t:t=t'):rge P wd base fl ops KD i rest g oo m t=rge P wd base fl ops KD i rest g oo m' t':=by subst h_m h_t; rfl
@[congr] theorem ZxX {P:Program} {wd:Nat} {base:Nat} {fl:List Nat} {ops:Array Oper} {KD:List LE→List PV→Mem→Prop} {i:Nat} {rest:List Oper} {g:List LE} {oo:Oper} {ν ν':Nat} {t t':List PV} {ρ:List Nat} {p p':PV} {m m':Mem} (h_t:t=t') (h_p:p=p') (h_m:m=m') (h_n:ν=ν'):nxe P wd base fl ops KD i rest g oo ν t ρ p m=nxe P wd base fl ops KD i rest g oo ν' t' ρ p' m':=by subst h_t h_p h_m h_n; rfl
@[congr] theorem Zxw {P:Program} {wd ν ν':Nat} {o:Op} {t t':List PV} {m m':Mem} {K:List Nat→PV→Mem→Prop} (h_n:ν=ν') (h_t:t=t') (h_m:m=m'):popI P wd ν o t m K=popI P wd ν' o t' m' K:=by subst h_n h_t h_m; rfl
@[congr] theorem ZxZ {P:Program} {wd ν ν':Nat} {f:FuncId} {ps ps':List PV} {m m':Mem} {K:List Nat→PV→Mem→Prop} (h_n:ν=ν') (h_p:ps=ps') (h_m:m=m'):pIO P wd ν f ps m K=pIO P wd ν' f ps' m' K:=by subst h_n h_p h_m; rfl
@[congr] theorem Zx4 {P:Program} {wd:Nat} {base:Nat} {fl:List Nat} {ops:Array Oper} {KD:List LE→List PV→Mem→Prop} {i:Nat} {rest:List Oper} {g:List LE} {oo:Oper} {m:Mem} {m':Mem} {t:List PV} {t':List PV} (h_m:m=m') (h_t:t=t'):rgd P wd base fl ops KD i rest g oo m t=rgd P wd base fl ops KD i rest g oo m' t':=by subst h_m h_t; rfl
@[congr] theorem Zx1 {P:Program} {wd:Nat} {base:Nat} {fl:List Nat} {ops:Array Oper} {KD:List LE→List PV→Mem→Prop} {i:Nat} {rest:List Oper} {g:List LE} {oo:Oper} {m:Mem} {m':Mem} {t:List PV} {t':List PV} (h_m:m=m') (h_t:t=t'):pgd P wd base fl ops KD i rest g oo m t=pgd P wd base fl ops KD i rest g oo m' t':=by subst h_m h_t; rfl
@[congr] theorem Zxc {b:Bool} {b':Bool} {y:List PV→Prop} {n:List PV→Prop} {t:List PV} {t':List PV} {i:Nat} (h_b:b=b') (h_t:t=t'):Zh8 b y n t i=Zh8 b' y n t' i:=by subst h_b h_t; rfl
@[congr] theorem ZxV {p:PV} {p':PV} {i:Nat} {t:List PV} {t':List PV} {b:Bool} {y:List PV→Prop} {n:List PV→Prop} (h_p:p=p') (h_t:t=t'):gdV p i t b y n=gdV p' i t' b y n:=by subst h_p h_t; rfl
@[congr] theorem Zx7 {d:Option Tmp} {t:List PV} {t':List PV} {b:Bool} {y:List PV→Prop} {n:List PV→Prop} (h_t:t=t'):gd d t b y n=gd d t' b y n:=by subst h_t; rfl
@[congr] theorem Zxe {P:Program} {T:TypeId} {cs:Option (List PV)} {cs':Option (List PV)} {K:PV→Prop} (h_cs:cs=cs'):Zg1 P T cs K=Zg1 P T cs' K:=by subst h_cs; rfl
@[congr] theorem Zxp {P:Program} {op:BinOp} {T:TypeId} {x:PV} {x':PV} {y:PV} {y':PV} {K:PV→Prop} (h_x:x=x') (h_y:y=y'):pBin P op T x y K=pBin P op T x' y' K:=by subst h_x h_y; rfl
@[congr] theorem Zx0 {op:UnOp} {x:PV} {x':PV} {K:PV→Prop} (h_x:x=x'):pUn op x K=pUn op x' K:=by subst h_x; rfl
@[congr] theorem Zwn {P:Program} {m:Mem} {m':Mem} {T:TypeId} {U:TypeId} {x:PV} {x':PV} {K:PV→Prop} (h_m:m=m') (h_x:x=x'):ZgC P m T U x K=ZgC P m' T U x' K:=by subst h_m h_x; rfl
@[congr] theorem Zwq {P:Program} {m:Mem} {m':Mem} {T:TypeId} {x:PV} {x':PV} {lo:Option PV} {lo':Option PV} {hi:Option PV} {hi':Option PV} {K:PV→Prop} (h_m:m=m') (h_x:x=x') (h_lo:lo=lo') (h_hi:hi=hi'):ZdK P m T x lo hi K=ZdK P m' T x' lo' hi' K:=by subst h_m h_x h_lo h_hi; rfl
@[congr] theorem ZsX {P:Program} {m:Mem} {m':Mem} {T:TypeId} {x:PV} {x':PV} {i:Nat} {K:PV→Prop} (h_m:m=m') (h_x:x=x'):ZcV P m T x i K=ZcV P m' T x' i K:=by subst h_m h_x; rfl
@[congr] theorem Zwo {P:Program} {T:TypeId} {x:PV} {x':PV} {i:Nat} {K:PV→Prop} (h_x:x=x'):ZiC P T x i K=ZiC P T x' i K:=by subst h_x; rfl
@[congr] theorem ZsY {P:Program} {m:Mem} {m':Mem} {T:TypeId} {x:PV} {x':PV} {y:PV} {y':PV} {K:PV→Prop} (h_m:m=m') (h_x:x=x') (h_y:y=y'):ZY P m T x y K=ZY P m' T x' y' K:=by subst h_m h_x h_y; rfl
@[congr] theorem Zwp {P:Program} {T:TypeId} {x:PV} {x':PV} {y:PV} {y':PV} {K:PV→Prop} (h_x:x=x') (h_y:y=y'):ZgD P T x y K=ZgD P T x' y' K:=by subst h_x h_y; rfl
@[congr] theorem Zxs {i:Nat} {x:PV} {x':PV} {K:PV→Prop} (h_x:x=x'):pExt i x K=pExt i x' K:=by subst h_x; rfl
@[congr] theorem Zwm {P:Program} {T:TypeId} {ps:List (Nat × PV)} {ps':List (Nat × PV)} {K:PV→Prop} (h_ps:ps=ps'):ZiB P T ps K=ZiB P T ps' K:=by subst h_ps; rfl
@[congr] theorem Zxt {P:Program} {m:Mem} {m':Mem} {T:TypeId} {x:PV} {x':PV} {K:PV→Prop} (h_m:m=m') (h_x:x=x'):pLen P m T x K=pLen P m' T x' K:=by subst h_m h_x; rfl
@[congr] theorem Zwa {b:Bool} {ps:List PV} {ps':List PV} {K:PV→Prop} (h_ps:ps=ps'):Zfx b ps K=Zfx b ps' K:=by subst h_ps; rfl
@[congr] theorem Zxo {ov:Option Value} {ov':Option Value} {K:PV→Prop} (h_ov:ov=ov'):optK ov K=optK ov' K:=by subst h_ov; rfl
@[congr] theorem ZxU {P:Program} {op:BinOp} {T:TypeId} {cs:List PV} {cs':List PV} {ds:List PV} {ds':List PV} {K:PV→Prop} (h_cs:cs=cs') (h_ds:ds=ds'):eqK P op T cs ds K=eqK P op T cs' ds' K:=by subst h_cs h_ds; rfl
@[congr] theorem Zxu {m:Mem} {m':Mem} {x:PV} {x':PV} {K:PV→Prop} (h_m:m=m') (h_x:x=x'):pNil m x K=pNil m' x' K:=by subst h_m h_x; rfl
@[congr] theorem Zxg {x:PV} {x':PV} {y:PV} {y':PV} {z:PV} {z':PV} {K:PV→Prop} (h_x:x=x') (h_y:y=y') (h_z:z=z'):ZpK x y z K=ZpK x' y' z' K:=by subst h_x h_y h_z; rfl
@[congr] theorem Zxd {P:Program} {io:Bool} {wd:Nat} {nu:Nat} {nu':Nat} {f:FuncId} {ps:List PV} {ps':List PV} {m:Mem} {m':Mem} {KA:PV→Mem→Prop} (h_ps:ps=ps') (h_m:m=m') (h_nu:nu=nu'):ZfX P io wd nu f ps m KA=ZfX P io wd nu' f ps' m' KA:=by subst h_ps h_m h_nu; rfl
@[congr] theorem Zxq {nu:Nat} {nu':Nat} {m:Mem} {m':Mem} {T:TypeId} {ocs:Option (List PV)} {ocs':Option (List PV)} {KA:PV→Mem→Prop} (h_nu:nu=nu') (h_m:m=m') (h_ocs:ocs=ocs'):pBox nu m T ocs KA=pBox nu' m' T ocs' KA:=by subst h_nu h_m h_ocs; rfl
@[congr] theorem ZsN {P:Program} {nu:Nat} {nu':Nat} {m:Mem} {m':Mem} {T:TypeId} {k:Nat} {ps:List (Nat × PV)} {ps':List (Nat × PV)} {KA:PV→Mem→Prop} (h_nu:nu=nu') (h_m:m=m') (h_ps:ps=ps'):ZdJ P nu m T k ps KA=ZdJ P nu' m' T k ps' KA:=by subst h_nu h_m h_ps; rfl
@[congr] theorem Zxf {P:Program} {nu:Nat} {nu':Nat} {m:Mem} {m':Mem} {T:TypeId} {x:PV} {x':PV} {y:PV} {y':PV} {KA:PV→Mem→Prop} (h_nu:nu=nu') (h_m:m=m') (h_x:x=x') (h_y:y=y'):ZjL P nu m T x y KA=ZjL P nu' m' T x' y' KA:=by subst h_nu h_m h_x h_y; rfl
@[congr] theorem Zwr {P:Program} {m:Mem} {m':Mem} {T:TypeId} {x:PV} {x':PV} {y:PV} {y':PV} {KA:PV→Mem→Prop} (h_m:m=m') (h_x:x=x') (h_y:y=y'):ZiD P m T x y KA=ZiD P m' T x' y' KA:=by subst h_m h_x h_y; rfl
@[congr] theorem Zv9 {P:Program} {nu:Nat} {nu':Nat} {m:Mem} {m':Mem} {T:TypeId} {x:PV} {x':PV} {y:PV} {y':PV} {KA:PV→Mem→Prop} (h_nu:nu=nu') (h_m:m=m') (h_x:x=x') (h_y:y=y'):ZcU P nu m T x y KA=ZcU P nu' m' T x' y' KA:=by subst h_nu h_m h_x h_y; rfl
@[congr] theorem Zxr {P:Program} {io:Bool} {wd:Nat} {nu:Nat} {nu':Nat} {p:PV} {p':PV} {ps:List PV} {ps':List PV} {m:Mem} {m':Mem} {KA:PV→Mem→Prop} (h_nu:nu=nu') (h_p:p=p') (h_ps:ps=ps') (h_m:m=m'):pDyn P io wd nu p ps m KA=pDyn P io wd nu' p' ps' m' KA:=by subst h_nu h_p h_ps h_m; rfl
@[congr] theorem Zxv {P:Program} {io:Bool} {wd:Nat} {nu:Nat} {nu':Nat} {o:Op} {t:List PV} {t':List PV} {m:Mem} {m':Mem} {KA:PV→Mem→Prop} (h_nu:nu=nu') (h_t:t=t') (h_m:m=m'):popA P io wd nu o t m KA=popA P io wd nu' o t' m' KA:=by subst h_nu h_t h_m; rfl
@[congr] theorem Zxn {ops2:List Oper} {K:List PV→Mem→Prop} {g:List LE} {t:List PV} {t':List PV} {m:Mem} {m':Mem} (h_t:t=t') (h_m:m=m'):endD ops2 K g t m=endD ops2 K g t' m':=by subst h_t h_m; rfl
@[congr] theorem Zx3 {P:Program} {n0:Nat} {code:Code} {Q:Exit→List PV→Mem→Prop} {t:List PV} {t':List PV} {m:Mem} {m':Mem} (h_t:t=t') (h_m:m=m'):pwp P n0 code Q t m=pwp P n0 code Q t' m':=by subst h_t h_m; rfl
@[congr] theorem Zxi {K:List PV→Mem→Prop} {Q:Exit→List PV→Mem→Prop} {e:Exit} {e':Exit} {t:List PV} {t':List PV} {m:Mem} {m':Mem} (h_t:t=t') (h_m:m=m') (h_e:e=e'):ZgH K Q e t m=ZgH K Q e' t' m':=by subst h_t h_m h_e; rfl
@[congr] theorem Zwl {id:Nat} {Q:Exit→List PV→Mem→Prop} {e:Exit} {e':Exit} {t:List PV} {t':List PV} {m:Mem} {m':Mem} (h_t:t=t') (h_m:m=m') (h_e:e=e'):Ziu id Q e t m=Ziu id Q e' t' m':=by subst h_t h_m h_e; rfl
class ZbA (α:Type) where
 c:α→List PV
instance:ZbA Int:=⟨cInt⟩
instance:ZbA ByteArray:=⟨cStr⟩
instance:ZbA Bool:=⟨ZlX⟩
section
variable {P:Program} {n0:Nat} {Q:Exit→List PV→Mem→Prop} {t t':List PV} {m m':Mem} {K:List PV→Mem→Prop} {KR:PV→Prop} {KA:PV→Mem→Prop}
theorem HexL {σ ο β:Type} {s:σ} {F:σ→Option β} {K:ο→Option β} {r:β} (h:(some (Sum.inl s)).bind (Zu F K)=some r):F s=some r:=h
theorem bexR {σ ο β:Type} {o:ο} {F:σ→Option β} {K:ο→Option β}:(some (Sum.inr o)).bind (Zu F K)=K o:=nrfl rfl
theorem bsr {α β γ δ:Type} {o:β} {F:α→Option γ} {G:β→Option γ} {K:γ→Option δ}:(Zu F G (Sum.inr o)).bind K=(G o).bind K:=nrfl rfl
theorem bsl {α β γ δ:Type} {o:α} {F:α→Option γ} {G:β→Option γ} {K:γ→Option δ}:(Zu F G (Sum.inl o)).bind K=(F o).bind K:=nrfl rfl
theorem Hc1k {α β:Type} {G:Prop} {b:Bool} {A B:Option α} {K:α→Option β} {r:β} (h:(cond b A B).bind K=some r) (hb:b=true) (k:A.bind K=some r→G):G:=k (Hc1 h hb)
theorem Hc2k {α β:Type} {G:Prop} {b:Bool} {A B:Option α} {K:α→Option β} {r:β} (h:(cond b A B).bind K=some r) (hb:b=false) (k:B.bind K=some r→G):G:=k (Hc2 h hb)
theorem ZwB {c:Bool} {y n:List PV→Prop} {i:Nat} (h:Zh8 c y n t i):Zh8 c y n t i:=h
theorem idxS {T:TypeId} {es:List (List PV)} {i:PV} (h:ZY P m T (.sl es) i KR):ZY P m T (.sl es) i KR:=h
def mkOk (n bytes:Int):Bool:=decide (0≤n∧n≤1099511627776∧bytes*n≤140737488355328)
theorem mkS {T:TypeId} {ν:Nat} {x y:PV} (h:ZjL P ν m T x y KA):ZjL P ν m T x y KA:=h
theorem Zur {T e k ν:Nat} {n b:Int} {zc:List PV} (hok:mkOk n b=true) (hu:P.underlying T=some (.slice e)) (hz:pz P e=some zc) (hb:(P.bytesOf e:Int)=b) (hc:P.cellsOf e=k) (hzl:zc.length=k) (hp:decide (0<k)=true) (hK:KA (.ms ν) (mput m ν ⟨e,k,List.replicate n.toNat zc⟩)):ZjL P ν m T (vi n) (vi n) KA:=by
 subst hb hc
 have hok':=of_decide_eq_true hok
 simp only [ZjL,hu,hz]
 exact ⟨trivial,hok'.1,of_decide_eq_true hp,hzl,hok'.2.1,hok'.2.2,hK⟩
theorem ZhD {ρ:Nat→Option Nat}:∀ {cs:List PV},(∀ q∈cs,isC q=true)→cutL ρ m m' cs cs
 | [],_=>trivial
 | c::cs,h=>⟨.c c (h c List.mem_cons_self),ZhD fun q hq=>h q (List.mem_cons_of_mem _ hq)⟩
theorem Zox {α:Type} {f:α→List PV} [hf:ZaA f] {ρ:Nat→Option Nat}:∀ {xs:List α},cutE ρ m m' (xs.map f) (xs.map f)
 | []=>trivial
 | x::xs=>⟨ZhD (hf.h x),Zox⟩
theorem ZgK {α:Type} {f:α→List PV} [hf:ZaA f] {ρ:Nat→Option Nat} {cs:List PV} {x:α} (h:cutL ρ m m' cs (f x)):∀ {xs:List α} {n:Nat},cutE ρ m m' ((xs.map f).set n cs) ((xs.set n x).map f)
 | [],_=>trivial
 | y::ys,0=>⟨h,Zox⟩
 | y::ys,n+1=>⟨ZhD (hf.h y),ZgK h⟩
theorem Zoy {α:Type} {f:α→List PV} {ρ:Nat→Option Nat} {cs:List PV} {x:α} (h:cutL ρ m m' cs (f x)):∀ {n:Nat},cutE ρ m m' (List.replicate n cs) ((List.replicate n x).map f)
 | 0=>trivial
 | n+1=>⟨h,Zoy h⟩
theorem ZhC {α:Type} {f:α→List PV} [hf:ZaA f] {ρ:Nat→Option Nat} {cs:List PV} {x:α} (h:cutL ρ m m' cs (f x)):∀ {xs:List α},cutE ρ m m' (xs.map f++[cs]) ((xs++[x]).map f)
 | []=>⟨h,trivial⟩
 | y::ys=>⟨ZhD (hf.h y),ZhC h⟩
theorem ZiX {α:Type} {f:α→List PV} [ZaA f] {ρ:Nat→Option Nat} {T k n:Nat} {cs:List PV} {x:α} {xs:List α} (h:cutL ρ m m' cs (f x)):cutF ρ m m' ⟨T,k,(xs.map f).set n cs⟩ ⟨T,k,(xs.set n x).map f⟩:=⟨⟨rfl,rfl,.inr (ZgK h)⟩,fun _ _=>Zl9 rfl⟩
theorem Zos {α:Type} {f:α→List PV} {ρ:Nat→Option Nat} {T k n:Nat} {cs:List PV} {x:α} (h:cutL ρ m m' cs (f x)):cutF ρ m m' ⟨T,k,List.replicate n cs⟩ ⟨T,k,(List.replicate n x).map f⟩:=⟨⟨rfl,rfl,.inr (Zoy h)⟩,fun _ _=>Zl9 rfl⟩
theorem Zwt {ρ:Nat→Option Nat} {T k:Nat} {es es':List (List PV)} (h:cutE ρ m m' es es'):cutF ρ m m' ⟨T,k,es⟩ ⟨T,k,es'⟩:=⟨⟨rfl,rfl,.inr h⟩,fun _ _=>Zl9 rfl⟩
theorem Zt7 {ρ:Nat→Option Nat}:cutE ρ m m' [] []:=trivial
theorem Zt6 {ρ:Nat→Option Nat} {cs ds:List PV} {es es':List (List PV)} (h:cutL ρ m m' cs ds) (h':cutE ρ m m' es es'):cutE ρ m m' (cs::es) (ds::es'):=⟨h,h'⟩
theorem Zoq {ρ:Nat→Option Nat} {T:TK} {k:Nat}:cutF ρ m m' ⟨T,k,[]⟩ ⟨T,k,[]⟩:=⟨⟨rfl,rfl,.inr trivial⟩,fun _ _=>Zma⟩
theorem Zot {ρ:Nat→Option Nat} {T k:Nat} {a b c d:List PV} {es es':List (List PV)} (h:cutE ρ m m' (a::b::es) (c::d::es')):cutF ρ m m' ⟨T,k,a::b::es⟩ ⟨T,k,c::d::es'⟩:=Zwt h
theorem Zl7 {α:Type} {f:α→List PV} [ZaA f] {ρ:Nat→Option Nat} {T k:Nat} {cs:List PV} {x:α} {xs:List α} (h:cutL ρ m m' cs (f x)):cutF ρ m m' ⟨T,k,xs.map f++[cs]⟩ ⟨T,k,(xs++[x]).map f⟩:=⟨⟨rfl,rfl,.inr (ZhC h)⟩,fun _ _=>Zl9 rfl⟩
/-! Keyed rows. -/
def isKd:Option MB→Bool
 | some mb=>mb.T.kd.isSome
 | none=>false
def ZvA (m:Mem):Bool:=decide ((m.filter isKd).length≤1)
theorem Zkz {α:Type} {p:α→Bool}:∀ {l:List α} {i j:Nat} {x y:α},(l.filter p).length≤1→l[i]?=some x→l[j]?=some y→p x=true→p y=true→i=j
 | [],i,j,x,y,_,h1,_,_,_=>by simp at h1
 | a::l,i,j,x,y,h,h1,h2,hx,hy=>by
  cases hp:p a with
  | false=>
   rw [List.filter_cons_of_neg (by simp [hp])] at h
   cases i with
   | zero=>simp at h1; subst h1; rw [hp] at hx; cases hx
   | succ i=>
    cases j with
    | zero=>simp at h2; subst h2; rw [hp] at hy; cases hy
    | succ j=>exact congrArg Nat.succ (Zkz (l:=l) (p:=p) h (x:=x) (y:=y) (by simpa using h1) (by simpa using h2) hx hy)
  | true=>
   rw [List.filter_cons_of_pos hp,List.length_cons] at h
   have h0:l.filter p=[]:=List.length_eq_zero_iff.1 (by omega)
   have no:∀ {k:Nat} {z:α},l[k]?=some z→p z=true→False:=fun {k z} hk hz=>by
    have hm:z∈l.filter p:=List.mem_filter.2 ⟨List.mem_of_getElem? hk,hz⟩
    rw [h0] at hm
    cases hm
   cases i with
   | succ i=>exact (no (by simpa using h1) hx).elim
   | zero=>
    cases j with
    | succ j=>exact (no (by simpa using h2) hy).elim
    | zero=>rfl
def msAt:Nat→List PV→Option (Nat × Nat)
 | _,[]=>none
 | j,.ms l::cs=>if cs.all noMs=true then some (l,j) else none
 | _,.ss ..::_=>none
 | j,_::cs=>msAt (j+1) cs
theorem Zto {cs:List PV} {o l j:Nat} (h:msAt o cs=some (l,j)):∃ j0,j=o+j0∧cs[j0]?=some (.ms l)∧∀ (i:Nat) (p:PV),cs[i]?=some p→i=j0∨noMs p=true:=by
 induction cs generalizing o with
 | nil=>cases h
 | cons p cs ih=>
  cases p with
  | ms k=>
   simp only [msAt] at h
   split at h
   ·rename_i hc
    simp only [Option.some.injEq,Prod.mk.injEq] at h
    obtain ⟨rfl,rfl⟩:=h
    refine ⟨0,rfl,rfl,fun i p hp=>?_⟩
    cases i with
    | zero=>exact .inl rfl
    | succ i=>exact .inr (List.all_eq_true.1 hc p (List.mem_of_getElem? (by simpa using hp)))
   ·cases h
  | ss a b c=>simp [msAt] at h
  | _=>
   have h':msAt (o+1) cs=some (l,j):=h
   obtain ⟨j0,e,h1,h2⟩:=ih h'
   refine ⟨j0+1,by omega,by simpa using h1,fun i q hq=>?_⟩
   cases i with
   | zero=>
    right
    simp only [List.getElem?_cons_zero,Option.some.injEq] at hq
    subst hq
    rfl
   | succ i=>
    rcases h2 i q (by simpa using hq) with h | h
    ·left; omega
    ·exact .inr h
theorem Zrr {p:PV} (h:isC p=true):noMs p=true:=by
 cases p with
 | ms=>cases h
 | ss=>cases h
 | _=>rfl
theorem ZqF {ρ:Nat→Option Nat} {t t':TypeId} {k k':Nat} {es es':List (List PV)} {cs:List PV} {n l j:Nat} (h:cutE ρ m m' es es') (hn:es[n]?=some cs) (ho:∀ (i:Nat) (ds:List PV),es[i]?=some ds→i≠n→∀ p∈ds,noMs p=true)
 (hm:msAt 0 cs=some (l,j)) (h1:ZvA m=true) {T2:TK} {k2:Nat} {es2:List (List PV)} (hl:look m l=some ⟨T2,k2,es2⟩) (ht:T2.t=t') {k0:Nat} (hk0:m[k0]?=some (some ⟨⟨t,some t'⟩,k,es⟩)):cutK ρ m m' ⟨⟨t,some t'⟩,k,es⟩ ⟨⟨t,some t'⟩,k',es'⟩:=by
 obtain ⟨j0,ej,g1,g2⟩:=Zto hm
 rw [Nat.zero_add] at ej
 subst ej
 intro T1 hT i ds j1 e hi hj hne
 have hT':some t'=some T1:=hT
 obtain ⟨cs1,c1,c2⟩:=(Zf3 h).2 i ds hi
 obtain ⟨p,p1,p2⟩:=(ZgL c2).2 j1 _ hj
 by_cases hms:noMs p=true
 ·have:=ZqD p2 hms hne
  subst this
  exact .inl ⟨hT,cs1,c1,p1⟩
 ·right
  have hin:i=n:=by
   rcases Nat.decEq i n with h | h
   ·exact absurd (ho i cs1 c1 h p (List.mem_of_getElem? p1)) hms
   ·exact h
  subst hin
  rw [hn] at c1
  obtain rfl:=Option.some.inj c1
  have hj1:j1=j:=by
   rcases g2 j1 p p1 with h | h
   ·exact h
   ·exact absurd h hms
  subst hj1
  rw [g1] at p1
  obtain rfl:=Option.some.inj p1
  have huni:∀ q',AdAt m l q'→q'=(t,i,j1):=by
   rintro q' ⟨l',mb',T',i',cs',j',a1,a2,a3,a4,rfl⟩
   have e:l'=k0:=Zkz (p:=isKd) (of_decide_eq_true h1) a1 hk0 (by simp [isKd,a2]) rfl
   subst e
   rw [hk0] at a1
   obtain rfl:(⟨⟨t,some t'⟩,k,es⟩:MB)=mb':=by simpa using a1
   have hi':i'=i:=by
    rcases Nat.decEq i' i with h | h
    ·have:=ho i' cs' a3 h _ (List.mem_of_getElem? a4); cases this
    ·exact h
   subst hi'
   rw [hn] at a3
   obtain rfl:=Option.some.inj a3
   rcases g2 j' _ a4 with h | h
   ·rw [h]
   ·cases h
  generalize hq:PV.sl e=q at p2
  cases p2 with
  | fms _ mk hm2 hc hd=>
   have:=Zc2.1 hl
   rw [hm2] at this
   obtain rfl:mk=⟨T2,k2,es2⟩:=by simpa using this
   refine ⟨_,l,_,hn,g1,⟨⟨k0,_,t',i,_,j1,hk0,rfl,hn,g1,rfl⟩,huni⟩,hm2,?_,?_,hd⟩
   ·rw [← Option.some.inj hT']; exact ht
   ·simpa using hq.symm
  | un=>cases hq
  | c _ h=>cases h
  | ms=>cases hq
theorem Zkv {α:Type} {f:α→List PV} [hf:ZaA f] {ρ:Nat→Option Nat} {t t':TypeId} {k l j k2:Nat} {T2:TK} {es2:List (List PV)} {cs:List PV} {x:α} {xs:List α} (hm:msAt 0 cs=some (l,j)) (h1:ZvA m=true) (hl:look m l=some ⟨T2,k2,es2⟩) (ht:T2.t=t') (h:cutL ρ m m' cs (f x)):
 cutF ρ m m' ⟨⟨t,some t'⟩,k,xs.map f++[cs]⟩ ⟨⟨t,some t'⟩,k,(xs++[x]).map f⟩:=by
 refine ⟨⟨rfl,rfl,.inr (ZhC h)⟩,fun k0 hk0=>ZqF (n:=xs.length) (cs:=cs) (ZhC h) (by simp) (fun i ds hi hne p hp=>?_) hm h1 hl ht hk0⟩
 rcases Nat.lt_or_ge i xs.length with hlt | hge
 ·rw [List.getElem?_append_left (by simpa using hlt),List.getElem?_map] at hi
  obtain ⟨y,_,rfl⟩:=Option.map_eq_some_iff.1 hi
  exact Zrr (hf.h y p hp)
 ·have:=(List.getElem?_eq_some_iff.1 hi).1
  simp at this
  omega
theorem Zl5 {α:Type} {f:α→List PV} [hf:ZaA f] {ρ:Nat→Option Nat} {t t':TypeId} {k l j k2 n:Nat} {T2:TK} {es2:List (List PV)} {cs:List PV} {x:α} {xs:List α} (hn:n<xs.length) (hm:msAt 0 cs=some (l,j)) (h1:ZvA m=true) (hl:look m l=some ⟨T2,k2,es2⟩) (ht:T2.t=t') (h:cutL ρ m m' cs (f x)):
 cutF ρ m m' ⟨⟨t,some t'⟩,k,(xs.map f).set n cs⟩ ⟨⟨t,some t'⟩,k,(xs.set n x).map f⟩:=by
 refine ⟨⟨rfl,rfl,.inr (ZgK h)⟩,fun k0 hk0=>ZqF (n:=n) (cs:=cs) (ZgK h) (List.getElem?_set_self (by simpa using hn)) (fun i ds hi hne p hp=>?_) hm h1 hl ht hk0⟩
 rw [List.getElem?_set_ne (Ne.symm hne),List.getElem?_map] at hi
 obtain ⟨y,_,rfl⟩:=Option.map_eq_some_iff.1 hi
 exact Zrr (hf.h y p hp)
theorem Zl6 {α:Type} {f:α→List PV} [hf:ZaA f] {ρ:Nat→Option Nat} {T:TK} {k n:Nat} {cs:List PV} {x:α} {xs:List α} (hn:cs.all noMs=true) (h:cutL ρ m m' cs (f x)):cutF ρ m m' ⟨T,k,(xs.map f).set n cs⟩ ⟨T,k,(xs.set n x).map f⟩:=by
 refine ⟨⟨rfl,rfl,.inr (ZgK h)⟩,fun _ _=>Zwu (ZgK h) fun ds hds p hp=>?_⟩
 rcases List.mem_or_eq_of_mem_set hds with hds | rfl
 ·obtain ⟨y,_,rfl⟩:=List.mem_map.1 hds
  exact Zrr (hf.h y p hp)
 ·exact List.all_eq_true.1 hn p hp
theorem idxM {T:TypeId} {l:Nat} {i:PV} (h:ZY P m T (.ms l) i KR):ZY P m T (.ms l) i KR:=h
theorem Zq7 {α:Type} [ZbA α] {xs:List α} {x:α} {T:TypeId} {T':TK} {l k':Nat} {i:Int} {k:IntKind} (h:getI xs i=some x) (hm:look m l=some ⟨T',k',xs.map ZbA.c⟩) (hp:0<Zel P T) (hk:k'=Zel P T) (hK:KR (.be l i.toNat 0)):ZY P m T (.ms l) (.v (.int k i)) KR:=ZwG h hm hp hk hK
theorem Zg8 {α:Type} {f:α→List PV} {xs:List α} {x:α} {i:Int} (h:getI xs i=some x):(xs.map f)[i.toNat]?=some (f x):=by
 rw [List.getElem?_map,(Zgq h).2]; rfl
theorem ZmY {α:Type} [ZbA α] {xs:List α} {T T':TypeId} {r k:Nat} {lo hi:Option PV} {l h:Int} (hok:slOk l h xs.length=true) (hm:look m r=some ⟨T',k,xs.map ZbA.c⟩) (hlo:pBd lo 0=some l) (hhi:pBd hi xs.length=some h) (hp:0<Zel P T) (hk:k=Zel P T) (hK:KR (.ss r l.toNat h.toNat)):ZdK P m T (.ms r) lo hi KR:=by
 obtain ⟨e,hu,he⟩:=ZgM hp
 rw [he] at hp hk
 have hok':=of_decide_eq_true hok
 simp only [ZdK,hu,Zez,hm,List.length_map,hlo,hhi]
 exact ⟨hok'.1,hok'.2.1,hok'.2.2,hp,hk,hK⟩
theorem Zw6 {α:Type} [ZbA α] {xs:List α} {T':TypeId} {r k:Nat} {a b:Int} (hm:look m r=some ⟨T',k,xs.map ZbA.c⟩):Zgc m (.ss r a.toNat b.toNat)=some ((subL xs a b).map ZbA.c):=by
 have h:=Zc2.1 hm
 simp only [Zgc,h,ZfI,ZfN,subL]
theorem ZlE {α:Type} [ZbA α] {xs:List α} {T':TypeId} {r k A B:Nat} {a b:Int} (hm:look m r=some ⟨T',k,xs.map ZbA.c⟩) (hA:A=a.toNat) (hB:B=b.toNat):Zgc m (.ss r A B)=some ((subL xs a b).map ZbA.c):=by subst hA hB; exact Zw6 hm
theorem Zs6 {cs:List PV} (h:cs.all isC=true):Zfi false (.ag cs):=fun c hc=>ZgP (List.all_eq_true.1 h c hc)
theorem Zum {cs:List PV} (h:cs.all isF=true):Zfi true (.ag cs):=fun c hc=>ZoM (List.all_eq_true.1 h c hc)
theorem Zs7 {ps:List PV} (h:ps.all isCA=true):Zfi false (.tu ps):=fun c hc=>(Zi0 (σ:=id) (List.all_eq_true.1 h c hc)).2.1
theorem idxB {T:TypeId} {s:ByteArray} {i:PV} (h:ZgD P T (.v (.string s)) i KR):ZgD P T (.v (.string s)) i KR:=h
theorem slcS {T:TypeId} {x:PV} {lo hi:Option PV} (h:ZdK P m T x lo hi KR):ZdK P m T x lo hi KR:=h
theorem appS {T:TypeId} {ν:Nat} {x y:PV} (h:ZcU P ν m T x y KA):ZcU P ν m T x y KA:=h
theorem Zwk {f:FuncId} {ps:List PV} {io:Bool} {wd ν:Nat} (h:ZfX P io wd ν f ps m KA):ZfX P io wd ν f ps m KA:=h
theorem optS {o:Option Value} (h:optK o KR):optK o KR:=h
theorem ZwJ {c:Code} (h:pwp P n0 (.loop c) Q t m):pwp P n0 (.loop c) Q t m:=h
theorem cutS (h:Cuts n0 t m t' m'):Cuts n0 t m t' m':=h
theorem all_nil {α:Type} {p:α→Prop}:(∀ x∈([]:List α),p x)=True:=by simp
theorem all_cons {α:Type} {p:α→Prop} {a:α} {as_:List α}:(∀ x∈a::as_,p x)=(p a∧∀ x∈as_,p x):=by simp
theorem ZwT {cs:List PV}:rdp m (.rp cs)=some cs:=nrfl rfl
theorem Zqq {α:Type} [ZbA α] {xs ys:List α} {T:TypeId} {ν l e k n b:Nat} {x:PV} {zc:List PV} (hok:Z9 (xs.length+ys.length) b=true) (hu:P.underlying T=some (.slice e)) (hz:pz P e=some zc) (hb:P.bytesOf e=b) (hc:P.cellsOf e=n) (hl:look m l=some ⟨e,k,xs.map ZbA.c⟩) (hsrc:Zgc m x=some (ys.map ZbA.c))
 (hzl:zc.length=n) (hp:decide (0<n)=true) (hf:∀ x:α,(ZbA.c x).length=n) (hk:k=n) (hK:KA (.ms ν) (mput (m.set l none) ν ⟨e,k,(xs++ys).map ZbA.c⟩)):ZcU P ν m T (.ms l) x KA:=by
 subst hb hc
 exact Zwi hok hu hz hsrc hl hzl (of_decide_eq_true hp) hf hk hK
theorem Zqp {α:Type} [ZbA α] {xs ys:List α} {cs:List PV} {T:TypeId} {ν l e k n b t':Nat} {x:PV} {zc:List PV} (hok:Z9 (xs.length+ys.length) b=true) (hy:ys.length=1) (hu:P.underlying T=some (.slice e)) (hz:pz P e=some zc) (hb:P.bytesOf e=b) (hc:P.cellsOf e=n) (hl:look m l=some ⟨⟨e,some t'⟩,k,xs.map ZbA.c⟩) (hsrc:Zgc m x=some [cs])
 (hst:cs.all noSl=true) (hcl:cs.length=n) (hzl:zc.length=n) (hp:decide (0<n)=true) (hk:k=n) (hK:KA (.ms ν) (mput (m.set l none) ν ⟨⟨e,some t'⟩,k,xs.map ZbA.c++[cs]⟩)):ZcU P ν m T (.ms l) x KA:=by
 subst hk
 subst hb
 have hok':=of_decide_eq_true hok
 rw [hy] at hok'
 simp only [ZcU,hu,hz,hsrc,Zez,hl,List.length_map,List.length_cons,List.length_nil,hc]
 refine ⟨hzl,of_decide_eq_true hp,fun ds hds=>?_,trivial,trivial,hok'.1,hok'.2,?_⟩
 ·rw [List.mem_singleton] at hds
  subst hds; exact hcl
 ·have e:(⟨e,some t'⟩:TK).sts [cs]=⟨e,some t'⟩:=by
   unfold TK.sts TK.stb
   simp only [List.all_cons,List.all_nil,Bool.and_true,hst,if_true]
  rw [e]; exact hK
theorem Zqr {α:Type} [ZbA α] {ys:List α} {T:TypeId} {ν e n b:Nat} {x:PV} {zc:List PV} (hok:Z9 ys.length b=true) (hu:P.underlying T=some (.slice e)) (hz:pz P e=some zc) (hb:P.bytesOf e=b) (hc:P.cellsOf e=n) (hsrc:Zgc m x=some (ys.map ZbA.c))
 (hzl:zc.length=n) (hp:decide (0<n)=true) (hf:∀ x:α,(ZbA.c x).length=n) (hK:KA (.ms ν) (mput m ν ⟨e,n,ys.map ZbA.c⟩)):ZcU P ν m T (.v (.slice none 0 0)) x KA:=by
 subst hb hc
 exact Zwj hok hu hz hsrc hzl (of_decide_eq_true hp) hf hK
theorem Zmi {b:Bool}:∀ mb,some mb∈([]:Mem)→∀ cs∈mb.es,∀ p∈cs,ZaL b p:=by intro mb h; cases h
theorem Zg7 {α:Type} {f:α→List PV} [ZaA f] {T:TK} {k:Nat} {xs:List α}:∀ mb,some mb∈([some ⟨T,k,xs.map f⟩]:Mem)→∀ cs∈mb.es,∀ p∈cs,ZaL false p:=by
 intro mb h
 simp only [List.mem_singleton,Option.some.injEq] at h
 subst h
 exact of_eq_true Zq2
theorem Zia {α:Type} {f:α→List PV} [ZgZ f] {T:TK} {k:Nat} {xs:List α}:∀ mb,some mb∈([some ⟨T,k,xs.map f⟩]:Mem)→∀ cs∈mb.es,∀ p∈cs,ZaL true p:=by
 intro mb h
 simp only [List.mem_singleton,Option.some.injEq] at h
 subst h
 exact of_eq_true Zq3
theorem hm_c {x:Option MB} {m:Mem} {b:Bool} (h1:∀ mb,some mb∈([x]:Mem)→∀ cs∈mb.es,∀ p∈cs,ZaL b p) (h2:∀ mb,some mb∈m→∀ cs∈mb.es,∀ p∈cs,ZaL b p):∀ mb,some mb∈(x::m)→∀ cs∈mb.es,∀ p∈cs,ZaL b p:=by
 intro mb h
 rcases List.mem_cons.1 h with h | h
 ·exact h1 mb (by simp [h])
 ·exact h2 mb h
end
theorem ZxM {n:Nat} {qs:List PV}:(TK.of n).st qs=TK.of n:=nrfl rfl
theorem ZxL {t t':TypeId} {x:Value}:(TK.mk t (some t')).st [.v x]=TK.mk t (some t'):=nrfl rfl
theorem Zw7 {n:Nat} {es:List (List PV)}:(TK.of n).sts es=TK.of n:=nrfl rfl
attribute [go_sem] ZxM ZxL Zw7 U_z U_s ZwT ZxK ZxJ Zq1 Zq0 ZxI ZxH ZxG ZnK Znh ZvU ZvL Zs9 Zs8 ZtC ZvO ZvN ZnI ZrJ ZtB ZtA ZvS ZvT ZnJ Ztd Zrc ZrI ZvK Zvc Zvb ZwD ZwC ZwE ZrP ZrO Znv Zu7 Zk5 Zu9 Zwz Zu8 Zs3 ZrF ZnV ZvC ZvB ZrG ZrE Zlq ZpR ZrH ZmI ZpW Zkj ZpT Zkk ZpU ZmJ ZpS Zlp Ztw Zty Ztx ZpQ Ztu ZjR Zkl ZpX ZnU ZrD Ztv Zru ZwS ZjF ZjE ZwL ZwK Zvo Zvp ZwN ZwM Zw5 Zw3 Zw4 ZwR ZwQ Zsl Zsn Zsm ZmT Zr0 Zp1 Zgb Zfq ZfI ZfN pBin binV pUn ZcV ZiC pExt pLen Zfx Zg1 aggd pBox pc ZiD pNil ZdO Zc1 Ziq Zj4 Zhg Zh0 Option.bind_some List.length_map if_true if_false Bool.false_eq_true List.map_cons List.map_nil List.toList_toArray beq_self_eq_true ite_self Int.toNat_natCast true_and and_true List.length_nil List.nil_append List.append_nil Nat.zero_add List.drop_zero List.drop_succ_cons List.take_zero List.take_succ_cons List.length_cons List.cons_append Option.map_some List.replicate_zero Bool.not_true Bool.not_false renV renA renC ren1 ZcW Ze5 ZpK ZnN ZgC pBd Option.map_none ZiB Zj9 ZdJ Zh3 Zkn all_cons all_nil Nat.zero_lt_succ Nat.lt_add_one and_self
instance:ZaA cInt:=⟨fun x q h=>by simp only [cInt,List.mem_singleton] at h; subst h; rfl⟩
instance:ZgZ cInt:=⟨fun x q h=>by simp only [cInt,List.mem_singleton] at h; subst h; rfl⟩
instance:ZaA cStr:=⟨fun x q h=>by simp only [cStr,List.mem_singleton] at h; subst h; rfl⟩
instance:ZgZ cStr:=⟨fun x q h=>by simp only [cStr,List.mem_singleton] at h; subst h; rfl⟩
instance:ZaA ZlX:=⟨fun x q h=>by simp only [ZlX,List.mem_singleton] at h; subst h; rfl⟩
instance:ZgZ ZlX:=⟨fun x q h=>by simp only [ZlX,List.mem_singleton] at h; subst h; rfl⟩
structure YB8 where
 v:Int
deriving DecidableEq
def cB8 (x:YB8):List PV:=[v8 x.v]
instance:ZbA YB8:=⟨cB8⟩
instance:ZaA cB8:=⟨fun x q h=>by simp only [cB8,List.mem_singleton] at h; subst h; rfl⟩
instance:ZgZ cB8:=⟨fun x q h=>by simp only [cB8,List.mem_singleton] at h; subst h; rfl⟩
structure Zp where
 b:List YB8
 i:Int
 h:Int
deriving DecidableEq
def Zku (x:Zp):List PV:=[.sl (x.b.map cB8),vi x.i,vi x.h]
instance:ZbA Zp:=⟨Zku⟩
instance:ZaA Zku:=⟨fun x q h=>by simp only [Zku,List.mem_cons,List.not_mem_nil,or_false] at h; (repeat' (first | (rcases h with rfl | h; rfl) | (subst h; rfl)))⟩
instance:ZbA Zw:=⟨Zd7⟩
instance:ZaA Zd7:=⟨fun x q h=>by simp only [Zd7,List.mem_cons,List.not_mem_nil,or_false] at h; (repeat' (first | (rcases h with rfl | h; rfl) | (subst h; rfl)))⟩
instance:ZgZ Zd7:=⟨fun x q h=>by simp only [Zd7,List.mem_cons,List.not_mem_nil,or_false] at h; (repeat' (first | (rcases h with rfl | h; rfl) | (subst h; rfl)))⟩
instance:ZbA Zi:=⟨Zar⟩
instance:ZaA Zar:=⟨fun x q h=>by simp only [Zar,List.mem_cons,List.not_mem_nil,or_false] at h; (repeat' (first | (rcases h with rfl | h; rfl) | (subst h; rfl)))⟩
instance:ZbA Zbg:=⟨ZcB⟩
instance:ZaA ZcB:=⟨fun x q h=>by simp only [ZcB,List.mem_cons,List.not_mem_nil,or_false] at h; (repeat' (first | (rcases h with rfl | h; rfl) | (subst h; rfl)))⟩
instance:ZgZ ZcB:=⟨fun x q h=>by simp only [ZcB,List.mem_cons,List.not_mem_nil,or_false] at h; (repeat' (first | (rcases h with rfl | h; rfl) | (subst h; rfl)))⟩
instance:ZbA Zai:=⟨Zb5⟩
instance:ZaA Zb5:=⟨fun x q h=>by simp only [Zb5,List.mem_cons,List.not_mem_nil,or_false] at h; (repeat' (first | (rcases h with rfl | h; rfl) | (subst h; rfl)))⟩
instance:ZgZ Zb5:=⟨fun x q h=>by simp only [Zb5,List.mem_cons,List.not_mem_nil,or_false] at h; (repeat' (first | (rcases h with rfl | h; rfl) | (subst h; rfl)))⟩
instance:ZbA YLeg:=⟨cLeg⟩
instance:ZaA cLeg:=⟨fun x q h=>by simp only [cLeg,List.mem_cons,List.not_mem_nil,or_false] at h; (repeat' (first | (rcases h with rfl | h; rfl) | (subst h; rfl)))⟩
instance:ZgZ cLeg:=⟨fun x q h=>by simp only [cLeg,List.mem_cons,List.not_mem_nil,or_false] at h; (repeat' (first | (rcases h with rfl | h; rfl) | (subst h; rfl)))⟩
instance:ZbA Za:=⟨Z2⟩
instance:ZaA Z2:=⟨fun x q h=>by simp only [Z2,List.mem_cons,List.not_mem_nil,or_false] at h; (repeat' (first | (rcases h with rfl | h; rfl) | (subst h; rfl)))⟩
instance:ZbA Zg:=⟨ZS⟩
instance:ZaA ZS:=⟨fun x q h=>by simp only [ZS,List.mem_cons,List.not_mem_nil,or_false] at h; (repeat' (first | (rcases h with rfl | h; rfl) | (subst h; rfl)))⟩
instance:ZgZ ZS:=⟨fun x q h=>by simp only [ZS,List.mem_cons,List.not_mem_nil,or_false] at h; (repeat' (first | (rcases h with rfl | h; rfl) | (subst h; rfl)))⟩
instance:ZbA Zc:=⟨Zk⟩
instance:ZaA Zk:=⟨fun x q h=>by simp only [Zk,List.mem_cons,List.not_mem_nil,or_false] at h; (repeat' (first | (rcases h with rfl | h; rfl) | (subst h; rfl)))⟩
instance:ZgZ Zk:=⟨fun x q h=>by simp only [Zk,List.mem_cons,List.not_mem_nil,or_false] at h; (repeat' (first | (rcases h with rfl | h; rfl) | (subst h; rfl)))⟩
instance:ZbA ZU:=⟨Zax⟩
instance:ZaA Zax:=⟨fun x q h=>by simp only [Zax,List.mem_cons,List.not_mem_nil,or_false] at h; (repeat' (first | (rcases h with rfl | h; rfl) | (subst h; rfl)))⟩
instance:ZgZ Zax:=⟨fun x q h=>by simp only [Zax,List.mem_cons,List.not_mem_nil,or_false] at h; (repeat' (first | (rcases h with rfl | h; rfl) | (subst h; rfl)))⟩
instance:ZbA Zh:=⟨ZV⟩
instance:ZaA ZV:=⟨fun x q h=>by simp only [ZV,List.mem_cons,List.not_mem_nil,or_false] at h; (repeat' (first | (rcases h with rfl | h; rfl) | (subst h; rfl)))⟩
instance:ZbA Ze:=⟨Ze0⟩
instance:ZaA Ze0:=⟨fun x q h=>by simp only [Ze0,List.mem_cons,List.not_mem_nil,or_false] at h; (repeat' (first | (rcases h with rfl | h; rfl) | (subst h; rfl)))⟩
instance:ZbA ZaF:=⟨Zbi⟩
instance:ZaA Zbi:=⟨fun x q h=>by simp only [Zbi,List.mem_cons,List.not_mem_nil,or_false] at h; (repeat' (first | (rcases h with rfl | h; rfl) | (subst h; rfl)))⟩
instance:ZgZ Zbi:=⟨fun x q h=>by simp only [Zbi,List.mem_cons,List.not_mem_nil,or_false] at h; (repeat' (first | (rcases h with rfl | h; rfl) | (subst h; rfl)))⟩
instance:ZbA YAct:=⟨cAct⟩
instance:ZaA cAct:=⟨fun x q h=>by simp only [cAct,List.mem_cons,List.not_mem_nil,or_false] at h; (repeat' (first | (rcases h with rfl | h; rfl) | (subst h; rfl)))⟩
instance:ZbA Zr:=⟨Ze8⟩
instance:ZaA Ze8:=⟨fun x q h=>by simp only [Ze8,List.mem_cons,List.not_mem_nil,or_false] at h; (repeat' (first | (rcases h with rfl | h; rfl) | (subst h; rfl)))⟩
instance:ZbA Zql:=⟨Zjf⟩
instance:ZaA Zjf:=⟨fun x q h=>by simp only [Zjf,List.mem_cons,List.not_mem_nil,or_false] at h; (repeat' (first | (rcases h with rfl | h; rfl) | (subst h; rfl)))⟩
instance:ZgZ Zjf:=⟨fun x q h=>by simp only [Zjf,List.mem_cons,List.not_mem_nil,or_false] at h; (repeat' (first | (rcases h with rfl | h; rfl) | (subst h; rfl)))⟩
instance:ZbA Zqj:=⟨Zjd⟩
instance:ZaA Zjd:=⟨fun x q h=>by simp only [Zjd,List.mem_cons,List.not_mem_nil,or_false] at h; (repeat' (first | (rcases h with rfl | h; rfl) | (subst h; rfl)))⟩
instance:ZbA Zqk:=⟨Zje⟩
instance:ZaA Zje:=⟨fun x q h=>by simp only [Zje,List.mem_cons,List.not_mem_nil,or_false] at h; (repeat' (first | (rcases h with rfl | h; rfl) | (subst h; rfl)))⟩
instance:ZbA Zqi:=⟨Zh2⟩
instance:ZaA Zh2:=⟨fun x q h=>by simp only [Zh2,List.mem_cons,List.not_mem_nil,or_false] at h; (repeat' (first | (rcases h with rfl | h; rfl) | (subst h; rfl)))⟩
instance:ZbA Zt0:=⟨Ziv⟩
instance:ZaA Ziv:=⟨fun x q h=>by simp only [Ziv,List.mem_cons,List.not_mem_nil,or_false] at h; (repeat' (first | (rcases h with rfl | h; rfl) | (subst h; rfl)))⟩
instance:ZgZ Ziv:=⟨fun x q h=>by simp only [Ziv,List.mem_cons,List.not_mem_nil,or_false] at h; (repeat' (first | (rcases h with rfl | h; rfl) | (subst h; rfl)))⟩
instance:ZbA Zqh:=⟨Zh1⟩
instance:ZaA Zh1:=⟨fun x q h=>by simp only [Zh1,List.mem_cons,List.not_mem_nil,or_false] at h; (repeat' (first | (rcases h with rfl | h; rfl) | (subst h; rfl)))⟩
attribute [go_sem] cInt cStr ZlX cB8 Zku Zd7 Zar ZcB Zb5 cLeg Z2 ZS Zk Zax ZV Ze0 Zbi cAct Ze8 Zjf Zjd Zje Zh2 Ziv Zh1 ZbA.c
theorem ZoH {n:Nat} {a b a2 b2:Int}:eqT Tryz.prog (n+3) 28 [vi a,vi b] [vi a2,vi b2]=some (decide ((⟨a,b⟩:Zg)=(⟨a2,b2⟩:Zg))):=by
 simp only [eqT,Tryz.underlying3,Tryz.underlying28,ts28,Program.fieldsOf,go_sem]
 simp [tc28,tc3]
 try rfl
@[go_sem] theorem Zxk {a b a2 b2:Int} {KR:PV→Prop}:eqK Tryz.prog .eql 28 [vi a,vi b] [vi a2,vi b2] KR=KR (vb (decide ((⟨a,b⟩:Zg)=(⟨a2,b2⟩:Zg)))):=by unfold eqK; rw [show (10000:Nat)=9997+3 from rfl,ZoH,Tryz.underlying28]; simp only [te28,true_and]
@[go_sem] theorem Zxm {a b a2 b2:Int} {KR:PV→Prop}:eqK Tryz.prog .neq 28 [vi a,vi b] [vi a2,vi b2] KR=KR (vb (!decide ((⟨a,b⟩:Zg)=(⟨a2,b2⟩:Zg)))):=by unfold eqK; rw [show (10000:Nat)=9997+3 from rfl,ZoH,Tryz.underlying28]; simp only [te28,true_and]
theorem Zjl {n:Nat} {a b c d a2 b2 c2 d2:Int}:eqT Tryz.prog (n+3) 175 [vi a,vi b,vi c,vi d] [vi a2,vi b2,vi c2,vi d2]=some (decide ((⟨a,⟨b,c⟩,d⟩:Zc)=(⟨a2,⟨b2,c2⟩,d2⟩:Zc))):=by
 simp only [eqT,Tryz.underlying3,Tryz.underlying175,ZxR,Tryz.underlying28,ts28,Program.fieldsOf,go_sem]
 simp [ZxO,tc28,tc3]
 try rfl
@[go_sem] theorem Zu6 {a b c d a2 b2 c2 d2:Int} {KR:PV→Prop}:eqK Tryz.prog .eql 175 [vi a,vi b,vi c,vi d] [vi a2,vi b2,vi c2,vi d2] KR=KR (vb (decide ((⟨a,⟨b,c⟩,d⟩:Zc)=(⟨a2,⟨b2,c2⟩,d2⟩:Zc)))):=by unfold eqK; rw [show (10000:Nat)=9997+3 from rfl,Zjl,Tryz.underlying175]; simp only [Zw9,true_and]
@[go_sem] theorem Zvq {a b c d a2 b2 c2 d2:Int} {KR:PV→Prop}:eqK Tryz.prog .neq 175 [vi a,vi b,vi c,vi d] [vi a2,vi b2,vi c2,vi d2] KR=KR (vb (!decide ((⟨a,⟨b,c⟩,d⟩:Zc)=(⟨a2,⟨b2,c2⟩,d2⟩:Zc)))):=by unfold eqK; rw [show (10000:Nat)=9997+3 from rfl,Zjl,Tryz.underlying175]; simp only [Zw9,true_and]
end Go.Proofs.YtkfbakhnpfmfmaaGreatDoor
