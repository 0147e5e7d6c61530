/- A part of the proof of the statement in the last file of this claim: texts on the language of the program and on its functions. No condition. -/
import Derived.Test.YtmcdjilbkmhfoaaGreatCRetryOrders2
import Derived.Test.YtmcdjilbkmhfoaaGreatCRetryOrders1
import Derived.ProofKit
import Derived.Deep.Slices
import Derived.Deep.Fields
import Derived.ChangeOld
import Derived.ChangeSame
import Derived.Test.YtmcdjilbkmhfoaaGreatChecked
import Derived.Lib.SmallJoins
import Derived.Test.YtmcdjilbkmhfoaaGreatRows
import Derived.OpenShut
set_option linter.unusedVariables false
set_option linter.unusedSimpArgs false
namespace Go.Proofs.YtmcdjilbkmhfoaaGreat
set_option maxRecDepth 10000
open Go.RowKit
set_option linter.unusedVariables false
set_option linter.unusedSimpArgs false
def updIn (σ:Nat→Nat):List Nat→Mem→Upd
 | l::ρ,x::m1=>(l,x.map (renMB σ))::updIn σ ρ m1
 | _,_=>[]
theorem putIn_app {σ:Nat→Nat}:∀ (ρ:List Nat) (m1 m:Mem),(∀ l∈ρ,l<m.length)→putIn σ ρ m1 m=app (updIn σ ρ m1) m
 | [],m1,m,_=>by cases m1 <;> rfl
 | l::ρ,[],m,_=>rfl
 | l::ρ,x::m1,m,h=>by
  simp only [putIn,updIn]
  rw [putIn_app ρ m1 _ (fun k hk=>by rw [List.length_set]; exact h k (List.mem_cons_of_mem _ hk))]
  show app (updIn σ ρ m1) _=app (updIn σ ρ m1) (app1 m (l,x.map (renMB σ)))
  rw [show app1 m (l,x.map (renMB σ))=m.set l (x.map (renMB σ)) from app_set (h l List.mem_cons_self) _]
theorem inRows_congr {σ:Nat→Nat} {m m2:Mem} {n:Nat}:∀ {ρ:List Nat} {m0:Mem},(∀ l∈ρ,look m2 l=look m l)→inRows σ m n ρ m0→inRows σ m2 n ρ m0
 | [],[],_,_=>trivial
 | [],_::_,_,h=>h.elim
 | _::_,[],_,h=>h.elim
 | l::ρ,none::m0,_,h=>h.elim
 | l::ρ,some mb0::m0,hl,h=>⟨look_iff.1 ((hl l List.mem_cons_self).trans (look_iff.2 h.1)),h.2.1,inRows_congr (fun k hk=>hl k (List.mem_cons_of_mem _ hk)) h.2.2⟩
def pIO (P:Program) (wd ν:Nat) (f:FuncId) (ps:List PV) (m:Mem) (K:List Nat→PV→Mem→Prop):Prop:=
 ∃ (ρ:List Nat) (m0:Mem) (qs:List PV) (r:PV) (m1:Mem),CallM P f qs m0 r m1∧m0.length≤m1.length∧m1.length-m0.length≤wd∧ps=qs.map (renA (sig ρ ν))∧(∀ q∈qs,goodA false q∧lowA m0.length q=true)∧ρ.Nodup∧inRows (sig ρ ν) m m0.length ρ m0∧
  (∀ mb,some mb∈m1→∀ cs∈mb.es,∀ p∈cs,goodC false p)∧goodV false r∧K ρ (renV (sig ρ ν) r) (putNew (sig ρ ν) ν (m1.drop ρ.length) (putIn (sig ρ ν) ρ m1 m))
def popI (P:Program) (wd ν:Nat) (o:Op) (t:List PV) (m:Mem) (K:List Nat→PV→Mem→Prop):Prop:=match o with
 | .call ⟨.value (.func f),xs,_⟩=>isFn P f∧pIO P wd ν f (xs.toList.map (evP t)) m K
 | _=>False
theorem updIn_mem {σ:Nat→Nat}:∀ (ρ:List Nat) (m1:Mem) (q:Nat × Option MB),q∈updIn σ ρ m1→q.1∈ρ
 | [],m1,q,h=>by cases m1 <;> simp [updIn] at h
 | l::ρ,[],q,h=>by simp [updIn] at h
 | l::ρ,x::m1,q,h=>by
  simp only [updIn,List.mem_cons] at h
  rcases h with rfl | h
  ·exact List.mem_cons_self
  ·exact List.mem_cons_of_mem _ (updIn_mem ρ m1 q h)
theorem pIO_local {P:Program} {m:Mem} {f:FuncId} {ps:List PV} {wd ν:Nat} {K:List Nat→PV→Mem→Prop} (h:pIO P wd ν f ps m K):
 ∃ (ρ:List Nat) (p:PV) (u:Upd),K ρ p (app u m)∧(∀ q∈u,q.1∈ρ++List.range' ν wd)∧∀ m2,(∀ l∈ρ,look m2 l=look m l)→pCall P true wd ν f ps m2 fun p' m'=>p'=p∧m'=app u m2:=by
 obtain ⟨ρ,m0,qs,r,m1,hc,hle,h16,hps,hqs,hn,hin,hm1,hgr,hK⟩:=h
 have hlt:∀ (m2:Mem),inRows (sig ρ ν) m2 m0.length ρ m0→∀ l∈ρ,l<m2.length:=fun m2 hi l hl=>by
  obtain ⟨i,hi1,rfl⟩:=List.getElem_of_mem hl
  obtain ⟨mb0,_,h2,_⟩:=(inRows_get hi).2 i ρ[i] (List.getElem?_eq_getElem hi1)
  exact (List.getElem?_eq_some_iff.1 h2).1
 have e:∀ (m2:Mem),inRows (sig ρ ν) m2 m0.length ρ m0→putNew (sig ρ ν) ν (m1.drop ρ.length) (putIn (sig ρ ν) ρ m1 m2)=app (updIn (sig ρ ν) ρ m1++updNew (sig ρ ν) ν (m1.drop ρ.length)) m2:=fun m2 hi=>by
  rw [putNew_app,putIn_app ρ m1 m2 (hlt m2 hi)]
  simp only [app,List.foldl_append]
 have hlen:=(inRows_get hin).1
 refine ⟨ρ,renV (sig ρ ν) r,updIn (sig ρ ν) ρ m1++updNew (sig ρ ν) ν (m1.drop ρ.length),by rw [← e m hin]; exact hK,fun q hq=>?_,fun m2 hm2=>?_⟩
 ·rcases List.mem_append.1 hq with hq | hq
  ·exact List.mem_append_left _ (updIn_mem _ _ _ hq)
  ·refine List.mem_append_right _ (mem_range'.2 ?_)
   have:=updNew_mem _ _ _ q hq
   simp only [List.length_drop] at this
   omega
 ·have hin2:=inRows_congr hm2 hin
  exact .inr ⟨ρ,m0,qs,r,m1,.inl rfl,hc,hle,h16,hps,hqs,hn,hin2,hm1,hgr,rfl,e m2 hin2⟩
def ioAt:List Nat→Nat→Bool
 | [],_=>false
 | a::l,i=>if a=i then true else ioAt l i
def leIO (ops:Array Oper) (o:Oper) (ρ:List Nat) (wd ν:Nat):LE:=⟨ρ,ρ++List.range' ν wd,slots ops o,o.dst⟩
def popsD (P:Program) (wd base:Nat) (fl:List Nat) (ops:Array Oper) (K:List LE→List PV→Mem→Prop):Nat→List Oper→List LE→List PV→Mem→Prop
 | _,[],g,t,m=>K g t m
 | i,o::rest,g,t,m=>match o.guard with
  | none=>if ioAt fl i=true then popI P wd (base+wd*i) o.op t m fun ρ p m'=>popsD P wd base fl ops K (i+1) rest (g++[leIO ops o ρ wd (base+wd*i)]) (putP t o.dst p) m'
   else popA P false wd (base+wd*i) o.op t m fun p m'=>popsD P wd base fl ops K (i+1) rest (g++[leOf ops o t wd (base+wd*i)]) (putP t o.dst p) m'
  | some (j,b)=>match (ops[j]?).bind (·.dst) with
   | none=>popsD P wd base fl ops K (i+1) rest (g++[le0 ops o]) (putP t o.dst .ud) m
   | some d=>match t.getD d .un,b with
    | .v (.bool c),true=>gate c (popA P false wd (base+wd*i) o.op (t.set d (.v (.bool true))) m fun p m'=>popsD P wd base fl ops K (i+1) rest (g++[leOf ops o (t.set d (.v (.bool true))) wd (base+wd*i)]) (putP (t.set d (.v (.bool true))) o.dst p) m')
     (popsD P wd base fl ops K (i+1) rest (g++[le0 ops o]) (putP (t.set d (.v (.bool false))) o.dst .ud) m)
    | .v (.bool c),false=>gate c (popsD P wd base fl ops K (i+1) rest (g++[le0 ops o]) (putP (t.set d (.v (.bool true))) o.dst .ud) m)
     (popA P false wd (base+wd*i) o.op (t.set d (.v (.bool false))) m fun p m'=>popsD P wd base fl ops K (i+1) rest (g++[leOf ops o (t.set d (.v (.bool false))) wd (base+wd*i)]) (putP (t.set d (.v (.bool false))) o.dst p) m')
    | .ud,_=>popsD P wd base fl ops K (i+1) rest (g++[le0 ops o]) (putP t o.dst .ud) m
    | _,_=>False
def Want (ops:Array Oper) (o:Oper) (t:List PV):Prop:=o.guard=none∨∃ j b d,o.guard=some (j,b)∧(ops[j]?).bind (·.dst)=some d∧t.getD d .un=.v (.bool b)
def NoWant (ops:Array Oper) (o:Oper) (t:List PV):Prop:=∃ j b,o.guard=some (j,b)∧((ops[j]?).bind (·.dst)=none∨∃ d,(ops[j]?).bind (·.dst)=some d∧(t.getD d .un=.ud∨t.getD d .un=.v (.bool (!b))))
def Does (P:Program) (wd ν:Nat) (ops:Array Oper) (o:Oper) (a:RA) (t:List PV) (m:Mem):Prop:=
 (Want ops o t∧∃ io:Bool,popA P io wd ν o.op t m fun p' m'=>p'=a.p∧m'=app a.u m)∨(NoWant ops o t∧a.p=.ud∧a.u=[])
structure Stp (P:Program) (wd ν:Nat) (ops:Array Oper) (o:Oper) (a:RA) (g:LE) (t:List PV) (m:Mem):Prop where
 ad:a.d=o.dst
 gd:g.d=o.dst
 gt:g.ts=slots ops o
 wr:∀ q∈a.u,q.1∈g.wr
 does:∀ t2 m2,(∀ s∈g.ts,t2.getD s .un=t.getD s .un)→(∀ l∈g.rd,look m2 l=look m l)→Does P wd ν ops o a t2 m2
section
variable {P:Program} {wd base:Nat} {fl:List Nat} {ops:Array Oper} {K:List LE→List PV→Mem→Prop}
theorem stT_none {L:Nat→Bool}:∀ (as_:List RA) (i:Nat) (t:List PV),(∀ k,L (i+k)=false)→stT L i as_ t=t
 | [],_,_,_=>rfl
 | a::as_,i,t,h=>by
  simp only [stT]
  rw [show L i=false from h 0]
  simp only [Bool.false_eq_true,if_false]
  exact stT_none as_ (i+1) t fun k=>by rw [show i+1+k=i+(k+1) by omega]; exact h (k+1)
theorem stM_none {L:Nat→Bool}:∀ (as_:List RA) (i:Nat) (m:Mem),(∀ k,L (i+k)=false)→stM L i as_ m=m
 | [],_,_,_=>rfl
 | a::as_,i,m,h=>by
  simp only [stM]
  rw [show L i=false from h 0]
  simp only [Bool.false_eq_true,if_false]
  exact stM_none as_ (i+1) m fun k=>by rw [show i+1+k=i+(k+1) by omega]; exact h (k+1)
theorem evP_slot {t t2:List PV} {x:Operand} (h:∀ s∈tmpOf x,t2.getD s .un=t.getD s .un):evP t2 x=evP t x:=by
 cases x with
 | tmp i=>exact h i (by simp [tmpOf])
 | _=>rfl
theorem set_self {t:List PV} {d:Nat} {p:PV} (h:t.getD d .un=p) (hne:p≠.un):t.set d p=t:=by
 apply List.ext_getElem?
 intro l
 rw [List.getElem?_set]
 split
 ·rename_i e
  subst e
  split
  ·rename_i hl
   simp [List.getD,List.getElem?_eq_getElem hl] at h
   rw [List.getElem?_eq_getElem hl,h]
  ·rename_i hl
   rw [List.getElem?_eq_none (by omega)]
 ·rfl
theorem same_of {o:Oper} {t t2:List PV} {m m2:Mem} {wd ν:Nat} (h1:∀ s∈slots ops o,t2.getD s .un=t.getD s .un) (h2:∀ l∈opR o.op t,look m2 l=look m l):Same o.op t m t2 m2:=
 ⟨fun x hx=>evP_slot fun s hs=>h1 s (List.mem_append_left _ (List.mem_flatMap.2 ⟨x,hx,hs⟩)),h2⟩
theorem popsD_run:∀ (l:List Oper) (i:Nat) (g:List LE) (t:List PV) (m:Mem),popsD P wd base fl ops K i l g t m→
 ∃ (as_:List RA) (gs:List LE),as_.length=l.length∧gs.length=l.length∧K (g++gs) (stT (fun _=>true) i as_ t) (stM (fun _=>true) i as_ m)∧
  ∀ k o,l[k]?=some o→∃ a e,as_[k]?=some a∧gs[k]?=some e∧Stp P wd (base+wd*(i+k)) ops o a e (stT (fun j=>decide (j<i+k)) i as_ t) (stM (fun j=>decide (j<i+k)) i as_ m)
 | [],i,g,t,m,h=>by
  unfold popsD at h
  exact ⟨[],[],rfl,rfl,by simpa [stT,stM] using h,fun k o hk=>by simp at hk⟩
 | o::l,i,g,t,m,h=>by
  -- one step,and the rest
  have next:∀ (a:RA) (e:LE),popsD P wd base fl ops K (i+1) l (g++[e]) (putP t a.d a.p) (app a.u m)→Stp P wd (base+wd*i) ops o a e t m→∃ (as_:List RA) (gs:List LE),as_.length=(o::l).length∧gs.length=(o::l).length∧K (g++gs) (stT (fun _=>true) i as_ t) (stM (fun _=>true) i as_ m)∧
   ∀ k o',(o::l)[k]?=some o'→∃ a e,as_[k]?=some a∧gs[k]?=some e∧Stp P wd (base+wd*(i+k)) ops o' a e (stT (fun j=>decide (j<i+k)) i as_ t) (stM (fun j=>decide (j<i+k)) i as_ m):=by
   intro a e h hs
   obtain ⟨as_,gs,h1,h2,h3,h4⟩:=popsD_run l (i+1) _ _ _ h
   refine ⟨a::as_,e::gs,by simp [h1],by simp [h2],by simpa [stT,stM] using h3,fun k o' hk=>?_⟩
   cases k with
   | zero=>
    obtain rfl:o=o':=by simpa using hk
    refine ⟨a,e,rfl,rfl,?_⟩
    rw [stT_none _ _ _ (fun k=>by simp),stM_none _ _ _ (fun k=>by simp)]
    exact hs
   | succ k=>
    obtain ⟨a',e',g1,g2,g3⟩:=h4 k o' (by simpa using hk)
    refine ⟨a',e',by simpa using g1,by simpa using g2,?_⟩
    simp only [stT,stM,show decide (i<i+(k+1))=true by simp,if_true]
    rw [show i+(k+1)=i+1+k by omega]
    exact g3
  have pass:∀ (hno:∀ t2:List PV,(∀ s∈slots ops o,t2.getD s .un=t.getD s .un)→NoWant ops o t2),popsD P wd base fl ops K (i+1) l (g++[le0 ops o]) (putP t o.dst .ud) m→∃ (as_:List RA) (gs:List LE),as_.length=(o::l).length∧gs.length=(o::l).length∧K (g++gs) (stT (fun _=>true) i as_ t) (stM (fun _=>true) i as_ m)∧
   ∀ k o',(o::l)[k]?=some o'→∃ a e,as_[k]?=some a∧gs[k]?=some e∧Stp P wd (base+wd*(i+k)) ops o' a e (stT (fun j=>decide (j<i+k)) i as_ t) (stM (fun j=>decide (j<i+k)) i as_ m):=by
   intro hno h
   exact next ⟨o.dst,.ud,[]⟩ (le0 ops o) h ⟨rfl,rfl,rfl,by simp,fun t2 m2 h1 _=>.inr ⟨hno t2 h1,rfl,rfl⟩⟩
  have run:∀ (hw:∀ t2:List PV,(∀ s∈slots ops o,t2.getD s .un=t.getD s .un)→Want ops o t2),(popA P false wd (base+wd*i) o.op t m fun p m'=>popsD P wd base fl ops K (i+1) l (g++[leOf ops o t wd (base+wd*i)]) (putP t o.dst p) m')→∃ (as_:List RA) (gs:List LE),as_.length=(o::l).length∧gs.length=(o::l).length∧K (g++gs) (stT (fun _=>true) i as_ t) (stM (fun _=>true) i as_ m)∧
   ∀ k o',(o::l)[k]?=some o'→∃ a e,as_[k]?=some a∧gs[k]?=some e∧Stp P wd (base+wd*(i+k)) ops o' a e (stT (fun j=>decide (j<i+k)) i as_ t) (stM (fun j=>decide (j<i+k)) i as_ m):=by
   intro hw h
   obtain ⟨p,u,h1,h2,h3⟩:=popA_local h
   exact next ⟨o.dst,p,u⟩ (leOf ops o t wd (base+wd*i)) h1 ⟨rfl,rfl,rfl,h2,fun t2 m2 e1 e2=>.inl ⟨hw t2 e1,false,h3 t2 m2 (same_of (ops:=ops) (wd:=wd) (ν:=0) e1 e2)⟩⟩
  have gs:∀ {j b d},o.guard=some (j,b)→(ops[j]?).bind (·.dst)=some d→d∈slots ops o:=fun hg hd=>List.mem_append_right _ (by simp [gslot,hg,hd])
  simp only [popsD] at h
  split at h
  ·rename_i hg
   split at h
   ·unfold popI at h
    split at h
    ·rename_i f xs Ts hop
     obtain ⟨hfn,hc⟩:=h
     obtain ⟨ρ,p,u,hK,hwr,hloc⟩:=pIO_local hc
     refine next ⟨o.dst,p,u⟩ (leIO ops o ρ wd (base+wd*i)) hK ⟨rfl,rfl,rfl,hwr,fun t2 m2 e1 e2=>.inl ⟨.inl hg,true,?_⟩⟩
     have hmap:xs.toList.map (evP t2)=xs.toList.map (evP t):=List.map_congr_left fun x hx=>evP_slot fun s hs=>e1 s (List.mem_append_left _ (List.mem_flatMap.2 ⟨x,by rw [hop]; simp [Op.operands,Call.operands,Array.mem_toList_iff.1 hx],hs⟩))
     rw [hop]
     show isFn P f∧pCall P true wd _ f (xs.toList.map (evP t2)) m2 _
     rw [hmap]
     exact ⟨hfn,hloc m2 e2⟩
    ·exact h.elim
   ·exact run (fun t2 _=>.inl hg) h
  ·rename_i j b hg
   split at h
   ·rename_i hdn; exact pass (fun t2 _=>⟨j,b,hg,.inl hdn⟩) h
   ·rename_i d hdn
    split at h
    ·rename_i c hc
     have hset:=fun c' (hc':c=c')=>set_self (t:=t) (d:=d) (p:=.v (.bool c')) (by rw [hc,hc']) (by simp)
     cases c with
     | true=>rw [hset true rfl] at h; exact run (fun t2 e=>.inr ⟨j,true,d,hg,hdn,(e d (gs hg hdn)).trans hc⟩) (h.1 rfl)
     | false=>rw [hset false rfl] at h; exact pass (fun t2 e=>⟨j,true,hg,.inr ⟨d,hdn,.inr ((e d (gs hg hdn)).trans hc)⟩⟩) (h.2 rfl)
    ·rename_i c hc
     have hset:=fun c' (hc':c=c')=>set_self (t:=t) (d:=d) (p:=.v (.bool c')) (by rw [hc,hc']) (by simp)
     cases c with
     | true=>rw [hset true rfl] at h; exact pass (fun t2 e=>⟨j,false,hg,.inr ⟨d,hdn,.inr ((e d (gs hg hdn)).trans hc)⟩⟩) (h.1 rfl)
     | false=>rw [hset false rfl] at h; exact run (fun t2 e=>.inr ⟨j,false,d,hg,hdn,(e d (gs hg hdn)).trans hc⟩) (h.2 rfl)
    ·rename_i hc; exact pass (fun t2 e=>⟨j,_,hg,.inr ⟨d,hdn,.inl ((e d (gs hg hdn)).trans hc)⟩⟩) h
    ·exact h.elim
/-! What the check says. -/
def Closed (ops:List Oper) (L:Nat→Bool):Prop:=∀ (j:Nat) (o:Oper),ops[j]?=some o→L j=true→∀ e∈o.after.toList,Region.binds .any e=true→L e.on=true
theorem mask_dep {L:Nat→Bool} {acc:List Nat} (hacc:∀ j,L j=true→∀ i,(acc.getD j 0).testBit i=true→L i=true):∀ (es:List Edge),(∀ e∈es,Region.binds .any e=true→L e.on=true)→∀ i,(es.foldr (fun e s=>if Region.binds .any e then s ||| 2 ^ e.on ||| acc.getD e.on 0 else s) 0).testBit i=true→L i=true
 | [],_,i,h=>by simp at h
 | e::es,he,i,h=>by
  simp only [List.foldr_cons] at h
  split at h
  ·rename_i hb
   simp only [Nat.testBit_or,Bool.or_eq_true] at h
   rcases h with (h | h) | h
   ·exact mask_dep hacc es (fun e' h'=>he e' (List.mem_cons_of_mem _ h')) i h
   ·have:e.on=i:=by
     rw [Nat.testBit_two_pow] at h
     simpa using h
    rw [← this]; exact he e List.mem_cons_self hb
   ·exact hacc e.on (he e List.mem_cons_self hb) i h
  ·exact mask_dep hacc es (fun e' h'=>he e' (List.mem_cons_of_mem _ h')) i h
theorem masks_dep {ops:List Oper} {L:Nat→Bool} (hcl:Closed ops L):∀ (l:List Oper) (acc:List Nat),(∀ k,l[k]?=ops[acc.length+k]?)→(∀ j,L j=true→∀ i,(acc.getD j 0).testBit i=true→L i=true)→∀ j,L j=true→∀ i,((masks l acc).getD j 0).testBit i=true→L i=true
 | [],acc,_,hacc=>hacc
 | o::l,acc,hl,hacc=>by
  unfold masks
  refine masks_dep hcl l _ (fun k=>?_) fun j hj i hi=>?_
  ·have:=hl (k+1)
   simp only [List.getElem?_cons_succ] at this
   rw [this,List.length_append]
   simp only [List.length_cons,List.length_nil]
   congr 1; omega
  ·rcases Nat.lt_trichotomy j acc.length with h | h | h
   ·refine hacc j hj i ?_
    simpa [List.getD,List.getElem?_append_left h] using hi
   ·subst h
    have h0:=hl 0
    simp only [List.getElem?_cons_zero,Nat.add_zero] at h0
    have hi':(maskOf acc o).testBit i=true:=by simpa [List.getD] using hi
    exact mask_dep hacc o.after.toList (fun e he hb=>hcl acc.length o h0.symm hj e he hb) i hi'
   ·rw [List.getD,List.getElem?_eq_none (by simp; omega)] at hi
    simp at hi
theorem chkD_pair {ops:List Oper} {g:List LE} (h:chkD ops g=true) {i j:Nat} (hij:i<j) (hj:j<ops.length):((masks ops []).getD j 0).testBit i=true∨apart2 (g.getD i default) (g.getD j default)=true:=by
 unfold chkD at h
 have:=List.all_eq_true.1 h j (List.mem_range.2 hj)
 rw [Bool.and_eq_true] at this
 have:=List.all_eq_true.1 this.2 i (List.mem_range.2 hij)
 simpa using this
theorem chkD_on {ops:List Oper} {g:List LE} (h:chkD ops g=true) {j:Nat} {o:Oper} (hj:ops[j]?=some o):∀ e∈o.after.toList,Region.binds .any e=true→e.on<j:=by
 unfold chkD at h
 have:=List.all_eq_true.1 h j (List.mem_range.2 (List.getElem?_eq_some_iff.1 hj).1)
 rw [Bool.and_eq_true,hj] at this
 have h1:=this.1
 simp only [Option.map_some,Option.getD_some] at h1
 intro e he hb
 rw [← Array.all_toList] at h1
 have:=List.all_eq_true.1 h1 e he
 simpa [hb] using this
/-! The region. -/
section
variable {w:World} {O:Nat→Prop} {E:Env} {w0:World} {m:Mem} {S0:Nat→Prop} {ω0:Nat→Key→Prop}
def unl (n:Nat) (listed:Array Bool):Nat:=((List.range n).filter fun j=>!listed.getD j false).length
theorem unl_set {n i:Nat} {listed:Array Bool} (hi:i<n) (hs:listed.size=n) (h:listed.getD i false=false):unl n (listed.setIfInBounds i true)<unl n listed:=by
 unfold unl
 have e:(List.range n).filter (fun j=>!(listed.setIfInBounds i true).getD j false)=((List.range n).filter fun j=>!listed.getD j false).filter fun j=>decide (j≠i):=by
  rw [List.filter_filter]
  apply List.filter_congr
  intro j hj
  by_cases hji:j=i
  ·subst hji
   have:(listed.setIfInBounds j true).getD j false=true:=by simp [Array.getD,hs,hi]
   simp [this]
  ·have:(listed.setIfInBounds i true).getD j false=listed.getD j false:=by
    rw [Array.getD_eq_getD_getElem?,Array.getD_eq_getD_getElem?,Array.getElem?_setIfInBounds_ne (fun e=>hji e.symm)]
   rw [this]; simp [hji]
 rw [e]
 exact List.length_filter_lt_length_iff_exists.2 ⟨i,by
  rw [List.mem_filter]
  exact ⟨List.mem_range.2 hi,by rw [h]; rfl⟩,by simp⟩
structure Sched (P:Program) (wd:Nat) (ops:List Oper) (as_:List RA) (gs:List LE) (t0:List PV) (m0:Mem):Prop where
 la:as_.length=ops.length
 lg:gs.length=ops.length
 chk:chkD ops gs=true
 st:∀ (k:Nat) (o:Oper),ops[k]?=some o→∃ a e,as_[k]?=some a∧gs[k]?=some e∧Stp P wd (m0.length+wd*k) ops.toArray o a e (stT (fun j=>decide (j<k)) 0 as_ t0) (stM (fun j=>decide (j<k)) 0 as_ m0)
theorem want_of {ops:Array Oper} {o:Oper} {t:List PV} {tm:Array Value} (h:Want ops o t) (ht:RepT w E t tm):Region.wanted o (yielded ops tm)=true:=by
 rcases h with h | ⟨j,b,d,hg,hd,hs⟩
 ·exact guard_none h _
 ·rw [guard_bool hg hd ht hs]; simp
theorem nowant_of {ops:Array Oper} {o:Oper} {t:List PV} {tm:Array Value} (h:NoWant ops o t) (ht:RepT w E t tm):Region.wanted o (yielded ops tm)=false:=by
 obtain ⟨j,b,hg,h | ⟨d,hd,h | h⟩⟩:=h
 ·exact guard_no hg h _
 ·exact guard_ud hg hd ht h
 ·rw [guard_bool hg hd ht h]; cases b <;> rfl
def SBd (S0:Nat→Prop) (ω0:Nat→Key→Prop) (w0:World) (O:Nat→Prop) (E:Env):Prop:=(∀ b,E.S b→S0 b∨w0.heap.size≤b∨O b)∧∀ b q,E.ω b q→ω0 b q∨w0.heap.size≤b∨O b
theorem sbound {w':World} {E':Env} (hk:Ok w0 O E w m) (h2:SBd S0 ω0 w0 O E) (k2:Ext w w' E E'):SBd S0 ω0 w0 O E':=by
 refine ⟨fun b hb=>?_,fun b q hb=>?_⟩
 ·rcases k2.S' b hb with h | h | ⟨l,B,hB,hz,rfl⟩
  ·exact h2.1 b h
  ·exact .inr (.inl (Nat.le_trans hk.up.size h))
  ·rcases (hk.own l B hB hz).1 with h | h
   ·exact .inr (.inr h)
   ·exact .inr (.inl h)
 ·rcases k2.ω' b q hb with h | h | ⟨l,B,hB,hz,rfl⟩
  ·exact h2.2 b q h
  ·exact .inr (.inl (Nat.le_trans hk.up.size h))
  ·rcases (hk.own l B hB hz).1 with h | h
   ·exact .inr (.inr h)
   ·exact .inr (.inl h)
theorem drawn_sound (hwd:0<wd) {ops:List Oper} {as_:List RA} {gs:List LE} {t0:List PV} {m0:Mem} (hsc:Sched P wd ops as_ gs t0 m0) {J:Env→Prop} (hJ:∀ w w' E E',Ext w w' E E'→J E→J E') {K:List PV→Mem→Prop} {Q:Exit→Act→World→Prop}
 (hK:K (stT (fun _=>true) 0 as_ t0) (stM (fun _=>true) 0 as_ m0))
 (hQ:∀ t m a w E,K t m→Ok w0 O E w m→(∀ b,S0 b→E.S b)→SBd S0 ω0 w0 O E→a.defers=[]→RepT w E t a.tmps→J E→Q .normal a w):
 ∀ (fuel:Nat) (listed:Array Bool) (a:Act) (w:World) (E:Env),listed.size=ops.length→unl ops.length listed≤fuel→Closed ops (fun j=>listed.getD j false)→
  Ok w0 O E w (stM (fun j=>listed.getD j false) 0 as_ m0)→(∀ b,S0 b→E.S b)→SBd S0 ω0 w0 O E→a.defers=[]→RepT w E (stT (fun j=>listed.getD j false) 0 as_ t0) a.tmps→
  (∀ l,E.used l→l<m0.length∨∃ j,listed.getD j false=true∧m0.length+wd*j≤l∧l<m0.length+wd*j+wd)→J E→wpAny P .any ops.toArray Q fuel listed a w:=by
 -- all is listed where nothing may come
 have fin:∀ (listed:Array Bool),listed.size=ops.length→Region.ready .any ops.toArray listed=[]→∀ j,j<ops.length→listed.getD j false=true:=by
  intro listed hs hr j
  induction j using Nat.strongRecOn with
  | _ j ih=>
   intro hj
   by_cases hl:listed.getD j false=true
   ·exact hl
   ·exfalso
    have hmem:j∈Region.ready .any ops.toArray listed:=by
     unfold Region.ready
     refine List.mem_filter.2 ⟨List.mem_range.2 (by simpa using hj),?_⟩
     have h1:listed.getD j true=false:=by
      have hjs:j<listed.size:=by rw [hs]; exact hj
      have:listed.getD j false=false:=by simpa using hl
      simp only [Array.getD,hjs,dif_pos] at this ⊢
      exact this
     rw [h1]
     obtain ⟨o,ho⟩:∃ o,ops[j]?=some o:=⟨ops[j],List.getElem?_eq_getElem hj⟩
     have ho':(ops.toArray)[j]?=some o:=by simpa using ho
     rw [ho']
     simp only [Option.map_some,Option.getD_some,Bool.not_false,Bool.true_and]
     rw [← Array.all_toList,List.all_eq_true]
     intro e he
     by_cases hb:Region.binds .any e=true
     ·have hlt:=chkD_on hsc.chk ho e he hb
      simp [hb,ih e.on hlt (by omega)]
     ·simp [hb]
    rw [hr] at hmem
    cases hmem
 have done:∀ (listed:Array Bool) (a:Act) (w:World) (E:Env),listed.size=ops.length→Region.ready .any ops.toArray listed=[]→Ok w0 O E w (stM (fun j=>listed.getD j false) 0 as_ m0)→(∀ b,S0 b→E.S b)→SBd S0 ω0 w0 O E→a.defers=[]→RepT w E (stT (fun j=>listed.getD j false) 0 as_ t0) a.tmps→J E→Q .normal a w:=by
  intro listed a w E hs hr hk h1 h2 hd ht hj
  have hall:=fin listed hs hr
  rw [stM_lt as_ 0 m0 (L':=fun _=>true) fun k hk=>by simp only [Nat.zero_add]; exact hall k (by rw [← hsc.la]; exact hk)] at hk
  rw [stT_lt as_ 0 t0 (L':=fun _=>true) fun k hk=>by simp only [Nat.zero_add]; exact hall k (by rw [← hsc.la]; exact hk)] at ht
  exact hQ _ _ a w E hK hk h1 h2 hd ht hj
 intro fuel
 induction fuel with
 | zero=>
  intro listed a w E hs hu hcl hk h1 h2 hd ht hused hjE
  have hr:Region.ready .any ops.toArray listed=[]:=by
   unfold Region.ready
   rw [List.filter_eq_nil_iff]
   intro j hj
   have hj':j<ops.length:=by simpa using hj
   have hall:listed.getD j false=true:=by
    unfold unl at hu
    have hnil:=List.length_eq_zero_iff.1 (Nat.le_zero.1 hu)
    rw [List.filter_eq_nil_iff] at hnil
    simpa using hnil j (List.mem_range.2 hj')
   have hjs:j<listed.size:=by rw [hs]; exact hj'
   have:listed.getD j true=true:=by
    simp only [Array.getD,hjs,dif_pos] at hall ⊢
    exact hall
   simp [this]
  exact ⟨hr,done listed a w E hs hr hk h1 h2 hd ht hjE⟩
 | succ fuel ih=>
  intro listed a w E hs hu hcl hk h1 h2 hd ht hused hjE
  refine ⟨fun hr=>done listed a w E hs hr hk h1 h2 hd ht hjE,fun i hi=>?_⟩
  obtain ⟨hi1,hi2⟩:=List.mem_filter.1 hi
  have hin:i<ops.length:=by simpa using hi1
  obtain ⟨o,ho⟩:∃ o,ops[i]?=some o:=⟨ops[i],List.getElem?_eq_getElem hin⟩
  have ho':(ops.toArray)[i]?=some o:=by simpa using ho
  rw [ho'] at hi2
  simp only [Option.map_some,Option.getD_some,Bool.and_eq_true,Bool.not_eq_true'] at hi2
  obtain ⟨hnl0,hdeps0⟩:=hi2
  have his:i<listed.size:=by rw [hs]; exact hin
  have hnl:listed.getD i false=false:=by
   simp only [Array.getD,his,dif_pos] at hnl0 ⊢
   exact hnl0
  have hdeps:∀ e∈o.after.toList,Region.binds .any e=true→listed.getD e.on false=true:=by
   intro e he hb
   rw [← Array.all_toList] at hdeps0
   have:=List.all_eq_true.1 hdeps0 e he
   simpa [hb] using this
  obtain ⟨ai,ei,ha,he,hst⟩:=hsc.st i o ho
  let L:Nat→Bool:=fun j=>listed.getD j false
  have hclm:=masks_dep hcl ops [] (fun k=>by simp) (fun j _ i h=>by simp [List.getD] at h)
  -- what is listed behind i is apart from it; what is not listed ahead of it,too
  have gget:∀ {k e'},gs[k]?=some e'→gs.getD k default=e':=fun h=>by simp [List.getD,h]
  have hafter:∀ (k:Nat) (e':LE),gs[k]?=some e'→i<k→L k=true→apart2 ei e'=true:=by
   intro k e' hk' hlt hL
   have hkn:k<ops.length:=by rw [← hsc.lg]; exact (List.getElem?_eq_some_iff.1 hk').1
   rcases chkD_pair hsc.chk hlt hkn with h | h
   ·have:=hclm k hL i h
    simp [hnl] at this
   ·rwa [gget he,gget hk'] at h
  have hcl2:Closed ops (ins L i):=by
   intro j o' hj hL e he' hb
   simp only [ins] at hL ⊢
   split at hL
   ·rename_i hji
    subst hji
    rw [ho] at hj
    cases hj
    split
    ·rfl
    ·exact hdeps e he' hb
   ·split
    ·rfl
    ·exact hcl j o' hj hL e he' hb
  have hclm2:=masks_dep hcl2 ops [] (fun k=>by simp) (fun j _ i h=>by simp [List.getD] at h)
  have hbefore:∀ (k:Nat) (e':LE),gs[k]?=some e'→k<i→L k=false→apart2 e' ei=true:=by
   intro k e' hk' hlt hL
   rcases chkD_pair hsc.chk hlt hin with h | h
   ·have:=hclm2 i (by simp [ins]) k h
    simp only [ins] at this
    rw [if_neg (by omega)] at this
    rw [hL] at this; cases this
   ·rwa [gget he,gget hk'] at h
  have part:∀ {x y:LE},apart2 x y=true→apartL x.wr y.rd=true∧apartL x.wr y.wr=true∧apartL y.wr x.rd=true∧apartL x.d.toList y.ts=true∧apartL y.d.toList x.ts=true∧apartL x.d.toList y.d.toList=true:=by
   intro x y h
   simp only [apart2,Bool.and_eq_true] at h
   exact ⟨h.1.1.1.1.1,h.1.1.1.1.2,h.1.1.1.2,h.1.1.2,h.1.2,h.2⟩
  -- the steps' own entries
  have stp:∀ {k:Nat} {b:RA},as_[k]?=some b→∃ e':LE,gs[k]?=some e'∧b.d=e'.d∧∀ q∈b.u,q.1∈e'.wr:=by
   intro k b hb
   have hkn:k<ops.length:=by rw [← hsc.la]; exact (List.getElem?_eq_some_iff.1 hb).1
   obtain ⟨a',e',g1,g2,g3⟩:=hsc.st k ops[k] (List.getElem?_eq_getElem hkn)
   rw [hb] at g1
   cases g1
   exact ⟨e',g2,g3.ad.trans g3.gd.symm,g3.wr⟩
  have parts:∀ (k:Nat) (b:RA),as_[k]?=some b→L (0+k)≠(decide (0+k<i))→∃ e':LE,gs[k]?=some e'∧b.d=e'.d∧(∀ q∈b.u,q.1∈e'.wr)∧(∀ s∈e'.d.toList,s ∉ ei.ts)∧∀ l∈e'.wr,l ∉ ei.rd:=by
   intro k b hb hne
   rw [Nat.zero_add] at hne
   obtain ⟨e',g1,g2,g3⟩:=stp hb
   refine ⟨e',g1,g2,g3,?_⟩
   rcases Nat.lt_trichotomy k i with h | h | h
   ·have hL:L k=false:=by
     cases hLk:L k with
     | false=>rfl
     | true=>rw [hLk] at hne; simp [h] at hne
    obtain ⟨p1,p2,p3,p4,p5,p6⟩:=part (hbefore k e' g1 h hL)
    exact ⟨fun s hs hs'=>apartL_ne p4 hs hs' rfl,fun l hl hl'=>apartL_ne p1 hl hl' rfl⟩
   ·subst h
    simp only [Nat.lt_irrefl,decide_false] at hne
    exact absurd hnl hne
   ·have hL:L k=true:=by
     cases hLk:L k with
     | true=>rfl
     | false=>rw [hLk] at hne; simp [Nat.not_lt.2 (Nat.le_of_lt h)] at hne
    obtain ⟨p1,p2,p3,p4,p5,p6⟩:=part (hafter k e' g1 h hL)
    exact ⟨fun s hs hs'=>apartL_ne p5 hs hs' rfl,fun l hl hl'=>apartL_ne p3 hl hl' rfl⟩
  have hdoes:=hst.does (stT L 0 as_ t0) (stM L 0 as_ m0) (fun s hs=>stT_agree as_ 0 t0 t0 rfl rfl fun k b hb hne=>by
   obtain ⟨e',g1,g2,g3,g4,g5⟩:=parts k b hb hne
   rw [g2]
   intro hd'
   exact g4 s (by rw [hd']; simp) hs) (fun l hl=>stM_agree as_ 0 m0 m0 rfl fun k b hb hne q hq=>by
   obtain ⟨e',g1,g2,g3,g4,g5⟩:=parts k b hb hne
   intro hql
   exact g5 q.1 (g3 q hq) (by rw [hql]; exact hl))
  -- the next state
  have hinsL:(fun j=>(listed.setIfInBounds i true).getD j false)=ins L i:=by
   funext j
   simp only [ins]
   split
   ·rename_i hji; subst hji; simp [Array.getD,his]
   ·rename_i hji
    rw [Array.getD_eq_getD_getElem?,Array.getElem?_setIfInBounds_ne (fun e=>hji e.symm),← Array.getD_eq_getD_getElem?]
  have hTi:stT (ins L i) 0 as_ t0=putP (stT L 0 as_ t0) ai.d ai.p:=by
   have:=stT_ins (L:=L) as_ 0 i t0 ha (by rw [Nat.zero_add]; exact hnl) fun k b hb hlt hL=>by
    rw [Nat.zero_add] at hL
    obtain ⟨e',g1,g2,g3⟩:=stp hb
    obtain ⟨p1,p2,p3,p4,p5,p6⟩:=part (hafter k e' g1 hlt hL)
    rw [g2,hst.ad.trans hst.gd.symm]
    cases hd1:ei.d with
    | none=>exact .inl rfl
    | some x=>
     refine .inr fun hd2=>?_
     exact apartL_ne p6 (x:=x) (y:=x) (by simp [hd1]) (by rw [← hd2]; simp) rfl
   simpa using this
  have hMi:stM (ins L i) 0 as_ m0=app ai.u (stM L 0 as_ m0):=by
   have:=stM_ins (L:=L) as_ 0 i m0 ha (by rw [Nat.zero_add]; exact hnl) fun k b hb hlt hL q hq r hr=>by
    rw [Nat.zero_add] at hL
    obtain ⟨e',g1,g2,g3⟩:=stp hb
    obtain ⟨p1,p2,p3,p4,p5,p6⟩:=part (hafter k e' g1 hlt hL)
    exact apartL_ne p2 (hst.wr q hq) (g3 r hr)
   simpa using this
  have hdd:∀ x,(a.put o.dst x).defers=[]:=fun x=>by cases o.dst <;> exact hd
  have hlt:=unl_set hin hs hnl
  unfold wpOp
  rw [ho']
  rcases hdoes with ⟨hw,io,hp⟩ | ⟨hw,hp,hu0⟩
  ·simp only [want_of hw ht,if_true]
   obtain ⟨p,m',⟨rfl,rfl⟩,hg⟩:=popA_sound hk hwd (fun r hr hu'=>by
    rcases hused _ hu' with h | ⟨j,hj,h3,h4⟩
    ·have:wd*i+r<wd*i+wd:=by omega
     omega
    ·have hji:j=i:=by
      rcases Nat.lt_trichotomy j i with h | h | h
      ·have:wd*j+wd≤wd*i:=by
        have:=Nat.mul_le_mul_left wd (show j+1≤i by omega)
        rw [Nat.mul_add] at this; omega
       omega
      ·exact h
      ·have:wd*i+wd≤wd*j:=by
        have:=Nat.mul_le_mul_left wd (show i+1≤j by omega)
        rw [Nat.mul_add] at this; omega
       omega
     subst hji
     rw [hnl] at hj; cases hj) ht hp
   refine .inl (hg _ _ fun x w' E' k1 k2 k3 k4=>ih _ _ w' E' (by simpa using hs) (by omega) ?_ ?_ (fun b hb=>k2.S b (h1 b hb)) ?_ (hdd x) ?_ (fun l hl=>?_) (hJ _ _ _ _ k2 hjE))
   ·rw [hinsL]; exact hcl2
   ·rw [hinsL,hMi]; exact k1
   ·exact sbound hk h2 k2
   ·rw [hinsL,hTi,hst.ad]; exact (ht.ext k2).put k3 o.dst
   ·have hset:(listed.setIfInBounds i true).getD i false=true:=by simp [Array.getD,his]
    have hkeep:∀ j,listed.getD j false=true→(listed.setIfInBounds i true).getD j false=true:=fun j hj=>by
     have this:(listed.setIfInBounds i true).getD j false=ins L i j:=congrFun hinsL j
     rw [this]
     simp only [ins]
     split
     ·rfl
     ·exact hj
    rcases k4 l hl with h | h
    ·rcases hused l h with h | ⟨j,hj,h3⟩
     ·exact .inl h
     ·exact .inr ⟨j,hkeep j hj,h3⟩
    ·exact .inr ⟨i,hset,h⟩
  ·simp only [nowant_of hw ht,Bool.false_eq_true,if_false]
   refine ih _ _ w E (by simpa using hs) (by omega) ?_ ?_ h1 h2 (hdd _) ?_ (fun l hl=>?_) hjE
   ·rw [hinsL]; exact hcl2
   ·rw [hinsL,hMi,hu0]; exact hk
   ·rw [hinsL,hTi,hst.ad,hp]; exact ht.put (.c .ud) o.dst
   ·have hkeep:∀ j,listed.getD j false=true→(listed.setIfInBounds i true).getD j false=true:=fun j hj=>by
     have this:(listed.setIfInBounds i true).getD j false=ins L i j:=congrFun hinsL j
     rw [this]
     simp only [ins]
     split
     ·rfl
     ·exact hj
    rcases hused l hl with h | ⟨j,hj,h3⟩
    ·exact .inl h
    ·exact .inr ⟨j,hkeep j hj,h3⟩
end
end
def dropped (ρ:Nat→Option Nat) (m':Mem) (k:Nat):Prop:=∀ l,liveB m' l=true→ρ l≠some k
def rowC (es:List (List PV)):Prop:=∀ cs∈es,∀ q∈cs,isC q=true
inductive CutC (ρ:Nat→Option Nat) (m m':Mem):PV→PV→Prop
 | un (p:PV):CutC ρ m m' p .un
 | c (p:PV) (h:isC p=true):CutC ρ m m' p p
 | ms (l k:Nat) (h:ρ l=some k) (hl:l<m'.length):CutC ρ m m' (.ms k) (.ms l)
 | ss (l k a b:Nat) (h:ρ l=some k) (hl:l<m'.length):CutC ρ m m' (.ss k a b) (.ss l a b)
 | be (l k i o:Nat) (h:ρ l=some k) (hl:l<m'.length):CutC ρ m m' (.be k i o) (.be l i o)
 | nilms (l:Nat) (h:ρ l=none) (hl:l<m'.length):CutC ρ m m' (.v (.slice none 0 0)) (.ms l)
 | nilsl (c:Nat):CutC ρ m m' (.v (.slice none 0 c)) (.sl [])
 | fms (k:Nat) (mb:MB) (hm:m[k]?=some (some mb)) (hc:rowC mb.es) (hd:dropped ρ m' k):CutC ρ m m' (.ms k) (.sl mb.es)
 | fss (k a b:Nat) (mb:MB) (hm:m[k]?=some (some mb)) (hc:rowC mb.es) (hd:dropped ρ m' k):CutC ρ m m' (.ss k a b) (.sl ((mb.es.drop a).take (b-a)))
 | fbe (k i o:Nat) (mb:MB) (cs:List PV) (hm:m[k]?=some (some mb)) (hi:mb.es[i]?=some cs) (hc:∀ q∈cs,isC q=true) (hd:dropped ρ m' k):CutC ρ m m' (.be k i o) (.rp (cs.drop o))
 | fn (f:FuncId) (cs ds:List PV) (hl:ds.length=cs.length) (h:∀ (j:Nat) (p r:PV),cs[j]?=some p→ds[j]?=some r→CutC ρ m m' p r):CutC ρ m m' (.fn f cs) (.fn f ds)
def cutL (ρ:Nat→Option Nat) (m m':Mem):List PV→List PV→Prop
 | [],[]=>True
 | p::ps,r::rs=>CutC ρ m m' p r∧cutL ρ m m' ps rs
 | _,_=>False
inductive CutA (ρ:Nat→Option Nat) (m m':Mem):PV→PV→Prop
 | c {p r:PV} (h:CutC ρ m m' p r):CutA ρ m m' p r
 | ag (cs ds:List PV) (h:cutL ρ m m' cs ds):CutA ρ m m' (.ag cs) (.ag ds)
def cutAs (ρ:Nat→Option Nat) (m m':Mem):List PV→List PV→Prop
 | [],[]=>True
 | p::ps,r::rs=>CutA ρ m m' p r∧cutAs ρ m m' ps rs
 | _,_=>False
inductive CutV (ρ:Nat→Option Nat) (m m':Mem):PV→PV→Prop
 | a {p r:PV} (h:CutA ρ m m' p r):CutV ρ m m' p r
 | tu (cs ds:List PV) (h:cutAs ρ m m' cs ds):CutV ρ m m' (.tu cs) (.tu ds)
def cutT (ρ:Nat→Option Nat) (m m':Mem):List PV→List PV→Prop
 | [],[]=>True
 | p::ps,r::rs=>CutV ρ m m' p r∧cutT ρ m m' ps rs
 | _,_=>False
def cutE (ρ:Nat→Option Nat) (m m':Mem):List (List PV)→List (List PV)→Prop
 | [],[]=>True
 | p::ps,r::rs=>cutL ρ m m' p r∧cutE ρ m m' ps rs
 | _,_=>False
def cutB (ρ:Nat→Option Nat) (m m':Mem) (mb mb':MB):Prop:=
 mb'.T.t=mb.T.t∧mb'.k=mb.k∧((mb'.es=mb.es∧rowC mb.es)∨cutE ρ m m' mb.es mb'.es)
def AdAt (m:Mem) (k:Nat) (q:Key):Prop:=∃ (l:Nat) (mb:MB) (T:TypeId) (i:Nat) (cs:List PV) (j:Nat),m[l]?=some (some mb)∧mb.T.kd=some T∧mb.es[i]?=some cs∧cs[j]?=some (PV.ms k)∧q=(mb.T.t,i,j)
def AdU (m:Mem) (k:Nat) (q:Key):Prop:=AdAt m k q∧∀ q',AdAt m k q'→q'=q
def cutK (ρ:Nat→Option Nat) (m m':Mem) (mb mb':MB):Prop:=
 ∀ T,mb'.T.kd=some T→∀ (i:Nat) (ds:List PV) (j:Nat) (es:List (List PV)),mb'.es[i]?=some ds→ds[j]?=some (.sl es)→es≠[]→
  (mb.T.kd=some T∧∃ cs,mb.es[i]?=some cs∧cs[j]?=some (.sl es))∨
  ∃ cs k mk,mb.es[i]?=some cs∧cs[j]?=some (.ms k)∧AdU m k (mb.T.t,i,j)∧m[k]?=some (some mk)∧mk.T.t=T∧mk.es=es∧dropped ρ m' k
structure CutM (n0:Nat) (ρ:Nat→Option Nat) (m m':Mem):Prop where
 row:∀ l mb',m'[l]?=some (some mb')→(∃ k mb,ρ l=some k∧m[k]?=some (some mb)∧cutB ρ m m' mb mb'∧cutK ρ m m' mb mb')∨(ρ l=none∧mb'.es=[]∧0<mb'.k)
 inj:∀ l l' k,liveB m' l=true→liveB m' l'=true→ρ l=some k→ρ l'=some k→l=l'
 low:∀ l,l<n0→liveB m' l=true→ρ l=some l
 n0:n0≤m'.length
def Cut (n0:Nat) (t:List PV) (m:Mem) (t':List PV) (m':Mem):Prop:=∃ ρ:Nat→Option Nat,cutT ρ m m' t t'∧CutM n0 ρ m m'
inductive Cuts (n0:Nat):List PV→Mem→List PV→Mem→Prop
 | one {t m t' m'} (h:Cut n0 t m t' m'):Cuts n0 t m t' m'
 | two {t m t1 m1 t' m'} (h:Cut n0 t m t1 m1) (h':Cuts n0 t1 m1 t' m'):Cuts n0 t m t' m'
def thenP (K:List PV→Mem→Prop) (Q:Exit→List PV→Mem→Prop):Exit→List PV→Mem→Prop
 | .normal,t,m=>K t m
 | e,t,m=>Q e t m
def blockP (id:Nat) (Q:Exit→List PV→Mem→Prop):Exit→List PV→Mem→Prop
 | .exit i,t,m=>if i=id then Q .normal t m else Q (.exit i) t m
 | e,t,m=>Q e t m
def rgnP (P:Program) (draw:Bool) (ops:Array Oper) (K:List PV→Mem→Prop) (t:List PV) (m:Mem):Prop:=
 match draw with
 | false=>pops P ops K ops.toList t m
 | true=>P.follows .mixedOrders=true∧∃ wd fl,0<wd∧popsD P wd m.length fl ops (fun g t m=>chkD ops.toList g=true∧K t m) 0 ops.toList [] t m
def pwp (P:Program) (n0:Nat):Code→(Exit→List PV→Mem→Prop)→List PV→Mem→Prop
 | .skip,Q,t,m=>Q .normal t m
 | .seq a b,Q,t,m=>pwp P n0 a (thenP (fun t m=>pwp P n0 b Q t m) Q) t m
 | .cond c x y,Q,t,m=>match evP t c with
  | .v (.bool b)=>if b=true then pwp P n0 x Q t m else pwp P n0 y Q t m
  | _=>False
 | .block id c,Q,t,m=>pwp P n0 c (blockP id Q) t m
 | .loop c,Q,t,m=>∃ (I:Nat→List PV→Mem→Prop) (n:Nat) (t0:List PV) (m0:Mem),Cuts n0 t m t0 m0∧I n t0 m0∧∀ n t m,I n t m→pwp P n0 c (thenP (fun t m=>∃ k t' m',k<n∧Cuts n0 t m t' m'∧I k t' m') Q) t m
 | .exit i,Q,t,m=>Q (.exit i) t m
 | .ret,Q,t,m=>Q .ret t m
 | .region _ ops draw,Q,t,m=>rgnP P draw ops (Q .normal) t m∨∃ t1 m1,Cuts n0 t m t1 m1∧rgnP P draw ops (Q .normal) t1 m1
 | _,_,_,_=>False
structure Fr where
 w0:World
 O:Nat→Prop
 β0:Nat→Option Blk
 n0:Nat
 S0:Nat→Prop
 ω0:Nat→Key→Prop
def RepSt (F:Fr) (t:List PV) (m:Mem) (a:Act) (w:World):Prop:=
 ∃ E,Ok F.w0 F.O E w m∧(∀ b,F.S0 b→E.S b)∧SBd F.S0 F.ω0 F.w0 F.O E∧(∀ l B,l<F.n0→E.β l=some B→F.β0 l=some B)∧(∀ l,l<F.n0→E.used l)∧a.defers=[]∧RepT w E t a.tmps
section
variable {w:World} {O:Nat→Prop} {E:Env} {w0:World} {m m':Mem} {P:Program} {ρ:Nat→Option Nat} {n0:Nat} {F:Fr}
def cutEnv (E:Env) (m:Mem) (ρ:Nat→Option Nat) (m':Mem):Env:=
 { S:=fun b=>E.S b∨∃ k B,E.β k=some B∧B.z=false∧B.b=b∧dropped ρ m' k
   β:=fun l=>match m'[l]? with
    | some (some mb')=>match ρ l with
     | some k=>E.β k
     | none=>some ⟨0,0,0,mb'.k,mb'.T.t,true⟩
    | _=>none
   used:=fun l=>l<m'.length
   ω:=fun b q=>E.ω b q∨∃ k B,E.β k=some B∧B.z=false∧B.b=b∧dropped ρ m' k∧AdU m k q }
theorem cutEnv_beta {l:Nat} {B:Blk} (h:(cutEnv E m ρ m').β l=some B):liveB m' l=true∧((∃ k,ρ l=some k∧E.β k=some B)∨(ρ l=none∧B.z=true)):=by
 simp only [cutEnv] at h
 split at h
 ·rename_i mb' hm
  refine ⟨liveB_iff.2 ⟨mb',hm⟩,?_⟩
  split at h
  ·exact .inl ⟨_,by assumption,h⟩
  ·refine .inr ⟨by assumption,?_⟩
   simp only [Option.some.injEq] at h
   rw [← h]
 ·cases h
theorem cutEnv_sv {l:Nat} {B:Blk} (hB:(cutEnv E m ρ m').β l=some B) (hn:ρ l=none):B.sv=.slice none 0 0:=by
 rcases (cutEnv_beta hB).2 with ⟨k,h,_⟩ | ⟨_,h⟩
 ·rw [hn] at h; cases h
 ·simp [Blk.sv,h]
theorem cutC_rep (hk:Ok w0 O E w m) {p r:PV} (h:CutC ρ m m' p r):∀ {x:Value},Rep w E p x→Rep w (cutEnv E m ρ m') r x:=by
 induction h with
 | un p=>intro x hx; exact .un' x
 | c p h=>intro x hx; exact .c ((hx.toC h).all fun b hb=>.inl hb)
 | ms l k h hl=>
  intro x hx
  cases hx with
  | c h=>cases h
  | ms _ _ _ h1 h2=>
   refine .ms _ _ hl h1 fun B hB=>?_
   rcases (cutEnv_beta hB).2 with ⟨k',e,hB'⟩ | ⟨e,_⟩
   ·rw [h] at e; cases e; exact h2 B hB'
   ·rw [h] at e; cases e
 | ss l k a b h hl=>
  intro x hx
  cases hx with
  | c h=>cases h
  | ss _ _ _ _ _ h1 h2=>
   refine .ss _ _ _ _ hl h1 fun B hB=>?_
   rcases (cutEnv_beta hB).2 with ⟨k',e,hB'⟩ | ⟨e,_⟩
   ·rw [h] at e; cases e; exact h2 B hB'
   ·rw [h] at e; cases e
 | be l k i o h hl=>
  intro x hx
  cases hx with
  | c h=>cases h
  | be _ _ _ _ _ h1 h2=>
   refine .be _ _ _ _ hl h1 fun B hB=>?_
   rcases (cutEnv_beta hB).2 with ⟨k',e,hB'⟩ | ⟨e,_⟩
   ·rw [h] at e; cases e; exact h2 B hB'
   ·rw [h] at e; cases e
 | nilms l h hl=>
  intro x hx
  obtain ⟨rfl,h1⟩:=hx.v_inv
  exact .ms _ _ hl h1 fun B hB=>(cutEnv_sv hB h).symm
 | nilsl c=>
  intro x hx
  obtain ⟨rfl,_⟩:=hx.v_inv
  exact .c (.nil none c)
 | fms k mb hm hc hd=>
  intro x hx
  obtain ⟨B,hB,hb,rfl⟩:=hx.ms_inv hk hm
  exact .c (row_all hB hb hc (fun b hb=>.inl hb) fun hz=>.inr ⟨k,B,hB,hz,rfl,hd⟩)
 | fss k a b mb hm hc hd=>
  intro x hx
  obtain ⟨B,hB,hb,A,c,rfl,hab,hbn,hA⟩:=hx.ss_inv hk hm
  exact .c (row_part hB hb hc (fun b hb=>.inl hb) (fun hz=>.inr ⟨k,B,hB,hz,rfl,hd⟩) hab hbn hA)
 | fbe k i o mb cs hm hi hc hd=>
  intro x hx
  obtain ⟨B,hB,hb,hz,rfl⟩:=hx.be_inv hk hm
  obtain ⟨cells,m1,m2,m3⟩:=hb.mem hz
  have hex:∀ j:Nat,∃ u:Value,∀ p,cs[o+j]?=some p→cells[i*B.k+(o+j)]?=some u∧u.oneCell'=true∧RepC w (cutEnv E m ρ m').S p u:=by
   intro j
   cases hj:cs[o+j]? with
   | none=>exact ⟨undef,fun p h=>by simp at h⟩
   | some p=>
    obtain ⟨u,u1,u2,u3⟩:=m3 i cs (o+j) p hi hj
    refine ⟨u,fun p' h=>?_⟩
    simp only [Option.some.injEq] at h
    subst h
    exact ⟨u1,u2,(u3.toC (hc p (List.mem_of_getElem? hj))).all fun b hb=>.inl hb⟩
  obtain ⟨f,hf⟩:=Classical.axiomOfChoice hex
  refine .c (.rp _ B.b (i*B.k+o) f (.inr ⟨k,B,hB,hz,rfl,hd⟩) (fun j p hj=>?_) (fun j p hj=>?_) fun j p hj=>?_)
  ·rw [List.getElem?_drop] at hj
   rw [cell_of_row w B.b _ cells B.T (0,0) m1,Nat.add_assoc]; exact (hf j p hj).1
  ·rw [List.getElem?_drop] at hj; exact (hf j p hj).2.1
  ·rw [List.getElem?_drop] at hj; exact (hf j p hj).2.2
 | fn f cs ds hl h ih=>
  intro x hx
  obtain ⟨vs,rfl,hvl,hr⟩:=hx.fn_inv
  refine .fn f ds vs (by rw [hvl,hl]) fun j r x hr' hx'=>?_
  have hj:j<cs.length:=by rw [← hl]; exact (List.getElem?_eq_some_iff.1 hr').1
  exact ih j cs[j] r (List.getElem?_eq_getElem hj) hr' (hr j _ x (List.getElem?_eq_getElem hj) hx')
theorem cutL_get:∀ {ps rs:List PV},cutL ρ m m' ps rs→rs.length=ps.length∧∀ (j:Nat) (r:PV),rs[j]?=some r→∃ p,ps[j]?=some p∧CutC ρ m m' p r
 | [],[],_=>⟨rfl,by simp⟩
 | [],_::_,h=>h.elim
 | _::_,[],h=>h.elim
 | p::ps,r::rs,h=>by
  obtain ⟨h1,h2⟩:=cutL_get h.2
  refine ⟨by simp [h1],fun j q hq=>?_⟩
  cases j with
  | zero=>obtain rfl:r=q:=by simpa using hq
          exact ⟨p,rfl,h.1⟩
  | succ j=>exact h2 j q (by simpa using hq)
theorem cutA_rep (hk:Ok w0 O E w m) {p r:PV} (h:CutA ρ m m' p r) {x:Value} (hx:Rep w E p x):Rep w (cutEnv E m ρ m') r x:=by
 cases h with
 | c h=>exact cutC_rep hk h hx
 | ag cs ds h=>
  obtain ⟨vs,rfl,hl,h1,hr⟩:=hx.ag_inv
  obtain ⟨e1,e2⟩:=cutL_get h
  refine .ag _ vs (by rw [hl,e1]) h1 fun j r x hr' hx'=>?_
  obtain ⟨p,hp,hc⟩:=e2 j r hr'
  exact cutC_rep hk hc (hr j p x hp hx')
theorem cutAs_get:∀ {ps rs:List PV},cutAs ρ m m' ps rs→rs.length=ps.length∧∀ (j:Nat) (r:PV),rs[j]?=some r→∃ p,ps[j]?=some p∧CutA ρ m m' p r
 | [],[],_=>⟨rfl,by simp⟩
 | [],_::_,h=>h.elim
 | _::_,[],h=>h.elim
 | p::ps,r::rs,h=>by
  obtain ⟨h1,h2⟩:=cutAs_get h.2
  refine ⟨by simp [h1],fun j q hq=>?_⟩
  cases j with
  | zero=>obtain rfl:r=q:=by simpa using hq
          exact ⟨p,rfl,h.1⟩
  | succ j=>exact h2 j q (by simpa using hq)
theorem cutV_rep (hk:Ok w0 O E w m) {p r:PV} (h:CutV ρ m m' p r) {x:Value} (hx:Rep w E p x):Rep w (cutEnv E m ρ m') r x:=by
 cases h with
 | a h=>exact cutA_rep hk h hx
 | tu cs ds h=>
  obtain ⟨vs,rfl,hl,hr⟩:=hx.tu_inv
  obtain ⟨e1,e2⟩:=cutAs_get h
  refine .tu _ vs (by rw [hl,e1]) fun j r x hr' hx'=>?_
  obtain ⟨p,hp,hc⟩:=e2 j r hr'
  exact cutA_rep hk hc (hr j p x hp hx')
theorem cutT_get:∀ {ps rs:List PV},cutT ρ m m' ps rs→rs.length=ps.length∧∀ (j:Nat) (r:PV),rs[j]?=some r→∃ p,ps[j]?=some p∧CutV ρ m m' p r
 | [],[],_=>⟨rfl,by simp⟩
 | [],_::_,h=>h.elim
 | _::_,[],h=>h.elim
 | p::ps,r::rs,h=>by
  obtain ⟨h1,h2⟩:=cutT_get h.2
  refine ⟨by simp [h1],fun j q hq=>?_⟩
  cases j with
  | zero=>obtain rfl:r=q:=by simpa using hq
          exact ⟨p,rfl,h.1⟩
  | succ j=>exact h2 j q (by simpa using hq)
theorem cutE_get:∀ {ps rs:List (List PV)},cutE ρ m m' ps rs→rs.length=ps.length∧∀ (j:Nat) (r:List PV),rs[j]?=some r→∃ p,ps[j]?=some p∧cutL ρ m m' p r
 | [],[],_=>⟨rfl,by simp⟩
 | [],_::_,h=>h.elim
 | _::_,[],h=>h.elim
 | p::ps,r::rs,h=>by
  obtain ⟨h1,h2⟩:=cutE_get h.2
  refine ⟨by simp [h1],fun j q hq=>?_⟩
  cases j with
  | zero=>obtain rfl:r=q:=by simpa using hq
          exact ⟨p,rfl,h.1⟩
  | succ j=>exact h2 j q (by simpa using hq)
theorem Ok.cut (hk:Ok w0 O E w m) (h:CutM n0 ρ m m'):Ok w0 O (cutEnv E m ρ m') w m':=by
 refine ⟨hk.up,?_,fun l B hB hz=>?_,fun l l' B B' hB hB' hz hz' e=>?_,fun l hl=>hl,fun l B hB=>?_,fun l mb' hm'=>?_,fun l B hB=>liveB_iff.1 (cutEnv_beta hB).1,hk.tab,fun b q hq=>?_⟩
 ·rintro b (hb | ⟨k,B,hB,hz,rfl,_⟩)
  ·exact hk.sz b hb
  ·exact (hk.own k B hB hz).2.1
 ·obtain ⟨hl,⟨k,e,hB'⟩ | ⟨_,hz'⟩⟩:=cutEnv_beta hB
  ·obtain ⟨a,b,c⟩:=hk.own k B hB' hz
   refine ⟨a,b,?_⟩
   rintro (hS | ⟨k2,B2,hB2,hz2,e2,hno⟩)
   ·exact c hS
   ·have:=hk.inj k k2 B B2 hB' hB2 hz hz2 e2.symm
    subst this
    exact hno l hl e
  ·rw [hz] at hz'; cases hz'
 ·obtain ⟨hl,⟨k,e1,h1⟩ | ⟨_,h1⟩⟩:=cutEnv_beta hB
  ·obtain ⟨hl',⟨k',e2,h2⟩ | ⟨_,h2⟩⟩:=cutEnv_beta hB'
   ·have:=hk.inj k k' B B' h1 h2 hz hz' e
    subst this
    exact h.inj l l' k hl hl' e1 e2
   ·rw [hz'] at h2; cases h2
  ·rw [hz] at h1; cases h1
 ·have:=(cutEnv_beta hB).1
  obtain ⟨mb,hm⟩:=liveB_iff.1 this
  exact (List.getElem?_eq_some_iff.1 hm).1
 ·rcases h.row l mb' hm' with ⟨k,mb,hρ,hm,⟨hT,hkk,hes⟩,hkey⟩ | ⟨hρ,h0,hpos⟩
  ·obtain ⟨B,hB,hb⟩:=hk.mem k mb hm
   refine ⟨B,by simp only [cutEnv]; rw [hm']; simp only [hρ]; exact hB,by rw [hb.k,hkk],?_,by rw [hb.T,hT],hb.pos,hb.nc,hb.cm,?_,fun hz=>?_,fun hz=>?_,fun T1 hT1 hz i ds j es x hi hj hne hcx=>?_⟩
   ·rcases hes with ⟨e,_⟩ | he
    ·rw [hb.n,e]
    ·rw [hb.n,(cutE_get he).1]
   ·intro i ds hi
    rcases hes with ⟨e,_⟩ | he
    ·rw [e] at hi; exact hb.es i ds hi
    ·obtain ⟨cs,hcs,hc⟩:=(cutE_get he).2 i ds hi
     rw [(cutL_get hc).1]; exact hb.es i cs hcs
   ·have h0:=hb.nil hz
    rcases hes with ⟨e,_⟩ | he
    ·rw [e]; exact h0
    ·have:=(cutE_get he).1
     rw [h0] at this
     exact List.length_eq_zero_iff.1 this
   ·obtain ⟨cells,m1,m2,m3⟩:=hb.mem hz
    refine ⟨cells,m1,m2,fun i ds j r hi hj=>?_⟩
    rcases hes with ⟨e,hcl⟩ | he
    ·rw [e] at hi
     obtain ⟨x,x1,x2,x3⟩:=m3 i ds j r hi hj
     exact ⟨x,x1,x2,.c ((x3.toC (hcl ds (List.mem_of_getElem? hi) r (List.mem_of_getElem? hj))).all fun b hb=>.inl hb)⟩
    ·obtain ⟨cs,hcs,hc⟩:=(cutE_get he).2 i ds hi
     obtain ⟨p,hp,hc'⟩:=(cutL_get hc).2 j r hj
     obtain ⟨x,x1,x2,x3⟩:=m3 i cs j p hcs hp
     exact ⟨x,x1,x2,cutC_rep hk hc' x3⟩
   ·rw [hT]
    rcases hkey T1 hT1 i ds j es hi hj hne with ⟨g1,cs,g2,g3⟩ | ⟨cs,kk,mk,g1,g2,g3,g4,g5,g6,g7⟩
    ·obtain ⟨b,c,k',cs',a1,a2,a3⟩:=hb.key T1 g1 hz i cs j es x g2 g3 hne hcx
     exact ⟨b,c,k',cs',a1,.inl a2,a3⟩
    ·obtain ⟨Bk,hBk,hbk⟩:=hk.mem kk mk g4
     obtain ⟨cells,m1,m2,m3⟩:=hb.mem hz
     obtain ⟨y,y1,y2,y3⟩:=m3 i cs j _ g1 g2
     rw [cell_of_row w B.b _ cells B.T (0,0) m1,y1] at hcx
     obtain rfl:y=x:=by simpa using hcx
     obtain ⟨B1,hB1,_,rfl⟩:=y3.ms_inv hk g4
     obtain rfl:Bk=B1:=by rw [hBk] at hB1; simpa using hB1
     have hz1:Bk.z=false:=hbk.full' (by rw [g6]; exact List.length_pos_iff.2 hne)
     obtain ⟨cells1,n1,n2,n3⟩:=hbk.mem hz1
     refine ⟨Bk.b,Bk.c,Bk.k,cells1,by rw [show Bk.sv=.slice (some ⟨Bk.b,0,none⟩) Bk.n Bk.c by simp [Blk.sv,hz1],hbk.n,g6],.inr ⟨kk,Bk,hBk,hz1,rfl,g7,g3⟩,by rw [← g5,← hbk.T]; exact n1,n2,hbk.pos,by rw [← g6,← hbk.n]; exact hbk.nc,hbk.cm,fun e he=>?_⟩
     rw [← g6] at he
     obtain ⟨i1,hi1⟩:=List.getElem?_of_mem he
     exact hbk.es i1 e hi1
  ·refine ⟨⟨0,0,0,mb'.k,mb'.T.t,true⟩,by simp only [cutEnv]; rw [hm']; simp only [hρ],rfl,by rw [h0]; rfl,rfl,hpos,Nat.le_refl _,Nat.zero_le _,by rw [h0]; simp,fun _=>h0,fun h=>(by cases h),fun _ _ h=>by cases h⟩
 ·rcases hq with hq | ⟨k,B,hB,hz,rfl,hd,ha⟩
  ·refine ⟨.inl (hk.ow b q hq).1,fun q' hq'=>?_⟩
   rcases hq' with h' | ⟨k,B,hB,hz,rfl,_⟩
   ·exact (hk.ow b q hq).2 q' h'
   ·exact absurd (hk.ow _ q hq).1 (hk.own k B hB hz).2.2
  ·refine ⟨.inr ⟨k,B,hB,hz,rfl,hd⟩,fun q' hq'=>?_⟩
   rcases hq' with h' | ⟨k2,B2,hB2,hz2,e2,_,ha2⟩
   ·exact absurd (hk.ow _ q' h').1 (hk.own k B hB hz).2.2
   ·have:=hk.inj k2 k B2 B hB2 hB hz2 hz e2
    subst this
    exact ha.2 q' ha2.1
theorem RepSt.cut {t t':List PV} {a:Act} (h:RepSt F t m a w) (hc:Cut F.n0 t m t' m'):RepSt F t' m' a w:=by
 obtain ⟨E,hk,hs1,hs2,hb0,hu0,hd,ht⟩:=h
 obtain ⟨ρ,h1,h2⟩:=hc
 obtain ⟨e1,e2⟩:=cutT_get h1
 refine ⟨cutEnv E m ρ m',hk.cut h2,fun b hb=>.inl (hs1 b hb),⟨fun b hb=>?_,fun b q hb=>?_⟩,fun l B hl hB=>?_,fun l hl=>Nat.lt_of_lt_of_le hl h2.n0,hd,by rw [ht.1,e1],fun i r hr=>?_⟩
 ·rcases hb with hb | ⟨k,B,hB,hz,rfl,_⟩
  ·exact hs2.1 b hb
  ·rcases (hk.own k B hB hz).1 with h | h
   ·exact .inr (.inr h)
   ·exact .inr (.inl h)
 ·rcases hb with hb | ⟨k,B,hB,hz,rfl,_⟩
  ·exact hs2.2 b q hb
  ·rcases (hk.own k B hB hz).1 with h | h
   ·exact .inr (.inr h)
   ·exact .inr (.inl h)
 ·obtain ⟨hlv,⟨k,e,hB'⟩ | ⟨e,_⟩⟩:=cutEnv_beta hB
  ·rw [h2.low l hl hlv] at e
   cases e
   exact hb0 l B hl hB'
  ·rw [h2.low l hl hlv] at e; cases e
 ·obtain ⟨p,hp,hcv⟩:=e2 i r hr
  exact cutV_rep hk hcv (ht.2 i p hp)
theorem RepSt.cuts {t t':List PV} {a:Act} {n0:Nat} (hc:Cuts n0 t m t' m') (hn:F.n0=n0) (h:RepSt F t m a w):RepSt F t' m' a w:=by
 subst hn
 induction hc with
 | one hc=>exact h.cut hc
 | two hc _ ih=>exact ih (h.cut hc)
theorem wp_loop_n {c:Code} {Q:Exit→Act→World→Prop} (I:Nat→Act→World→Prop) (round:∀ n a w,I n a w→c.wp P (Exit.then (fun a' w'=>∃ k,k<n∧I k a' w') Q) a w) {n:Nat} {a:Act} {w:World} (h0:I n a w):(Code.loop c).wp P Q a w:=by
 intro b k cs
 have key:∀ n a w,I n a w→∃ e a' w',Q e a' w'∧Arrives P (lone (b.at a (.code c::.inLoop c::k)) cs w) b k cs e a' w':=by
  intro n
  induction n using Nat.strongRecOn with
  | _ n ih=>
   intro a w hI
   obtain ⟨e,a₁,w₁,hq,harr⟩:=round n a w hI b (.inLoop c::k) cs
   cases e with
   | normal=>
    obtain ⟨j,hlt,hI₁⟩:=hq
    obtain ⟨e₂,a₂,w₂,hq₂,harr₂⟩:=ih j hlt a₁ w₁ hI₁
    exact ⟨e₂,a₂,w₂,hq₂,.of_steps (Steps.trans harr (.one step_inLoop)) harr₂⟩
   | exit id=>exact ⟨_,a₁,w₁,hq,.pass (x:=.inLoop c) rfl (fun _ _=>.inl (by simp)) harr⟩
   | goto l=>exact ⟨_,a₁,w₁,hq,.pass (x:=.inLoop c) rfl (fun _ _=>.inl (by simp)) harr⟩
   | ret=>exact ⟨_,a₁,w₁,hq,.pass (x:=.inLoop c) rfl (fun _ _=>.inl (by simp)) harr⟩
   | panic ch=>exact ⟨_,a₁,w₁,hq,.pass (x:=.inLoop c) rfl (fun _ _=>.inl (by simp)) harr⟩
   | outgrown=>exact ⟨_,a₁,w₁,hq,.pass (x:=.inLoop c) rfl (fun _ _=>.inl (by simp)) harr⟩
 obtain ⟨e,a',w',hq,harr⟩:=key n a w h0
 exact ⟨e,a',w',hq,.of_steps (.one step_loop) harr⟩
def liftQ (F:Fr) (Q:Exit→List PV→Mem→Prop):Exit→Act→World→Prop:=fun e a w=>∃ t m,Q e t m∧RepSt F t m a w
theorem rgn_sound {id:Nat} {ops:Array Oper} {draw:Bool} {Q:Exit→List PV→Mem→Prop} {t:List PV} {m:Mem} {a:Act} {w:World} (h:rgnP P draw ops (Q .normal) t m) (hr:RepSt F t m a w):(Code.region id ops draw).wp P (liftQ F Q) a w:=by
 obtain ⟨E,hk,hs1,hs2,hb0,hu0,hd,ht⟩:=hr
 cases draw with
 | false=>
  refine wp_region_list (pops_sound ops.toList t m E w a hk hd ht h ?_)
  intro t m E' w' a' hK h1 hx h2 h3
  exact ⟨t,m,hK,E',h1,fun b hb=>hx.S b (hs1 b hb),sbound hk hs2 hx,fun l B hl hB=>hb0 l B hl (hx.β l B (hu0 l hl) hB),fun l hl=>hx.used l (hu0 l hl),h2,h3⟩
 | true=>
  obtain ⟨hf,wd,fl,hwd,hp⟩:=h
  obtain ⟨as_,gs,h1,h2,⟨hchk,hK⟩,hst⟩:=popsD_run ops.toList 0 [] t m hp
  simp only [List.nil_append] at hchk
  have hsc:Sched P wd ops.toList as_ gs t m:=⟨h1,h2,hchk,fun k o hko=>by
   obtain ⟨a,e,g1,g2,g3⟩:=hst k o hko
   simp only [Nat.zero_add] at g3
   exact ⟨a,e,g1,g2,g3⟩⟩
  have hu:Ok F.w0 F.O E { w with drawn:=w.drawn+1 } m∧Ext w { w with drawn:=w.drawn+1 } E E:=hk.drew 1
  refine wp_region_any hf ?_
  have hre:∀ (j:Nat),(Array.replicate ops.size false).getD j false=false:=fun j=>by
   rw [Array.getD_eq_getD_getElem?,Array.getElem?_replicate]
   split <;> rfl
  have hfun:(fun j=>(Array.replicate ops.size false).getD j false)=fun _=>false:=funext hre
  have hopsL:ops.toList.toArray=ops:=by simp
  have key:=drawn_sound (w0:=F.w0) (O:=F.O) (S0:=F.S0) (ω0:=F.ω0) hwd hsc (J:=fun E=>(∀ l B,l<F.n0→E.β l=some B→F.β0 l=some B)∧∀ l,l<F.n0→E.used l)
   (fun w w' E E' hx hJ=>⟨fun l B hl hB=>hJ.1 l B hl (hx.β l B (hJ.2 l hl) hB),fun l hl=>hx.used l (hJ.2 l hl)⟩) (K:=Q .normal) (Q:=liftQ F Q) hK
   (fun t m a w E hK hk h1 h2 hd ht hJ=>⟨t,m,hK,E,hk,h1,h2,hJ.1,hJ.2,hd,ht⟩) ops.size (Array.replicate ops.size false) a _ E (by simp) (by
    unfold unl
    refine Nat.le_trans (List.length_filter_le _ _) (by simp)) (by
    intro j o hj hL
    exact absurd ((hre j).symm.trans hL) (by simp)) (by rw [hfun,stM_none _ _ _ (fun _=>rfl)]; exact hu.1) hs1 hs2 hd (by rw [hfun,stT_none _ _ _ (fun _=>rfl)]; exact ht.ext hu.2)
    (fun l hl=>.inl (hk.used l hl)) ⟨hb0,hu0⟩
  rw [hopsL] at key
  exact key
theorem pwp_sound:∀ (c:Code) (Q:Exit→List PV→Mem→Prop) (t:List PV) (m:Mem) (a:Act) (w:World),pwp P F.n0 c Q t m→RepSt F t m a w→c.wp P (liftQ F Q) a w
 | .skip,Q,t,m,a,w,h,hr=>wp_skip ⟨t,m,h,hr⟩
 | .seq x y,Q,t,m,a,w,h,hr=>by
  refine wp_seq (Code.wp_mono ?_ (pwp_sound x _ t m a w h hr))
  rintro e a w ⟨t,m,hq,hr⟩
  cases e with
  | normal=>exact pwp_sound y Q t m a w hq hr
  | _=>exact ⟨t,m,hq,hr⟩
 | .cond c x y,Q,t,m,a,w,h,hr=>by
  simp only [pwp] at h
  split at h
  ·rename_i b hb
   have hr':=hr
   obtain ⟨E,hk,_,_,_,_,hd,ht⟩:=hr'
   have hv:=evP_rep ht c
   rw [hb] at hv
   have hv:=hv.v_inv.1
   cases b with
   | true=>exact wp_cond_true hv (pwp_sound x Q t m a w (by simpa using h) hr)
   | false=>exact wp_cond_false hv (pwp_sound y Q t m a w (by simpa using h) hr)
  ·exact h.elim
 | .block id c,Q,t,m,a,w,h,hr=>by
  refine wp_block (Code.wp_mono ?_ (pwp_sound c _ t m a w h hr))
  rintro e a w ⟨t,m,hq,hr⟩
  cases e with
  | exit i=>
   simp only [Exit.inBlock]
   simp only [blockP] at hq
   split
   ·rename_i hi; rw [if_pos hi] at hq; exact ⟨t,m,hq,hr⟩
   ·rename_i hi; rw [if_neg hi] at hq; exact ⟨t,m,hq,hr⟩
  | _=>exact ⟨t,m,hq,hr⟩
 | .loop c,Q,t,m,a,w,h,hr=>by
  obtain ⟨I,n,t0,m0,hcut,hI,hround⟩:=h
  refine wp_loop_n (fun n a w=>∃ t m,I n t m∧RepSt F t m a w) ?_ ⟨t0,m0,hI,RepSt.cuts hcut rfl hr⟩
  rintro n a w ⟨t,m,hI,hr⟩
  refine Code.wp_mono ?_ (pwp_sound c _ t m a w (hround n t m hI) hr)
  rintro e a w ⟨t,m,hq,hr⟩
  cases e with
  | normal=>
   obtain ⟨k,t',m',hlt,hcut,hI⟩:=hq
   exact ⟨k,hlt,t',m',hI,RepSt.cuts hcut rfl hr⟩
  | _=>exact ⟨t,m,hq,hr⟩
 | .exit i,Q,t,m,a,w,h,hr=>wp_exit ⟨t,m,h,hr⟩
 | .ret,Q,t,m,a,w,h,hr=>wp_ret ⟨t,m,h,hr⟩
 | .region id ops draw,Q,t,m,a,w,h,hr=>by
  rcases h with h | ⟨t1,m1,hc,h⟩
  ·exact rgn_sound h hr
  ·exact rgn_sound h (RepSt.cuts hc rfl hr)
 | .scope _,_,_,_,_,_,h,_=>h.elim
 | .label _,_,_,_,_,_,h,_=>h.elim
 | .goto _,_,_,_,_,_,h,_=>h.elim
 | .rangeFunc ..,_,_,_,_,_,h,_=>h.elim
 | .refuse _,_,_,_,_,_,h,_=>h.elim
def resP (P:Program):List ResultVar→List PV→Mem→(List PV→Prop)→Prop
 | [],_,_,K=>K []
 | .tmp i::rest,t,m,K=>resP P rest t m fun ps=>K (t.getD i .un::ps)
 | .cell i T::rest,t,m,K=>pLoad P T (rdp m (t.getD i .un)) fun p=>resP P rest t m fun ps=>K (p::ps)
def oneP:List PV→PV
 | [p]=>p
 | ps=>.tu ps
def oneV:List Value→Value
 | [v]=>v
 | vs=>.tuple vs.toArray
theorem resP_sound (hk:Ok w0 O E w m) {t:List PV} {a:Act} (ht:RepT w E t a.tmps):∀ (rs:List ResultVar) (K:List PV→Prop),resP P rs t m K→
 ∃ ps vs,K ps∧(rs.mapM fun (r:ResultVar)=>(match r with
  | .tmp t=>pure (a.tmps.getD t undef)
  | .cell b T=>do loadVar T (← asAddr (a.tmps.getD b undef)):Sem Value)).run P w=.ok vs w∧vs.length=ps.length∧ps.length=rs.length∧∀ (j:Nat) (p:PV) (x:Value),ps[j]?=some p→vs[j]?=some x→Rep w E p x
 | [],K,h=>⟨[],[],h,by simp,rfl,rfl,by simp⟩
 | .tmp i::rest,K,h=>by
  obtain ⟨ps,vs,hK,hrun,hl,hl2,hr⟩:=resP_sound hk ht rest _ h
  refine ⟨_,a.tmps.getD i undef::vs,hK,?_,by simp [hl],by simp [hl2],fun j p x hp hx=>?_⟩
  ·simp only [List.mapM_cons,Sem.run_bind,Sem.run_pure,Result.andThen_ok]
   rw [hrun]
   rfl
  ·cases j with
   | zero=>
    simp only [List.getElem?_cons_zero,Option.some.injEq] at hp hx
    subst hp hx
    exact evP_rep ht (.tmp i)
   | succ j=>exact hr j p x (by simpa using hp) (by simpa using hx)
 | .cell i T::rest,K,h=>by
  simp only [resP] at h
  cases hp:rdp m (t.getD i .un) with
  | none=>rw [hp] at h; unfold pLoad at h; split at h <;> first | exact h.elim | simp_all
  | some cs=>
   rw [hp] at h
   obtain ⟨b,off,hx,hb,hc⟩:=rdp_rep hk (evP_rep ht (.tmp i)) hp
   obtain ⟨p,v,hK,hrunl,hrep⟩:=pLoad_mem h hb hc
   obtain ⟨ps,vs,hK,hrun,hl,hl2,hr⟩:=resP_sound hk ht rest _ hK
   simp only [Act.eval] at hx
   refine ⟨_,v::vs,hK,?_,by simp [hl],by simp [hl2],fun j p x hp hx=>?_⟩
   ·have hasA:(asAddr (a.tmps.getD i undef)).run P w=.ok ⟨b,off,none⟩ w:=by rw [hx]; rfl
    simp only [List.mapM_cons,Sem.run_bind,hasA,Sem.run_pure,Result.andThen_ok,hrunl w (Up.rfl' w)]
    rw [hrun]
    rfl
   ·cases j with
    | zero=>
     simp only [List.getElem?_cons_zero,Option.some.injEq] at hp hx
     subst hp hx
     exact hrep
    | succ j=>exact hr j p x (by simpa using hp) (by simpa using hx)
def Fin (P:Program) (n0:Nat) (rs:Array ResultVar) (r:PV) (m1:Mem) (t:List PV) (m:Mem):Prop:=resP P rs.toList t m fun ps=>Cuts n0 [oneP ps] m [r] m1
theorem Fin_sound {t:List PV} {a:Act} (hr:RepSt F t m a w) {fn:Func} {r:PV} {m1:Mem} (h:Fin P F.n0 fn.results r m1 t m):
 ∃ v E',(results fn a.tmps).run P w=.ok v w∧Ok F.w0 F.O E' w m1∧(∀ b,F.S0 b→E'.S b)∧SBd F.S0 F.ω0 F.w0 F.O E'∧(∀ l B,l<F.n0→E'.β l=some B→F.β0 l=some B)∧Rep w E' r v:=by
 obtain ⟨E,hk,hs1,hs2,hb0,hu0,hd,ht⟩:=hr
 obtain ⟨ps,vs,hcut,hrun,hl,hl2,hr⟩:=resP_sound hk ht _ _ h
 have hres:(results fn a.tmps).run P w=.ok (oneV vs) w:=by
  unfold results
  rw [Array.mapM_eq_mapM_toList,Sem.run_bind,Sem.run_map]
  refine (congrArg (fun r=>(Result.andThen r fun (a:List Value) w'=>Result.ok a.toArray w').andThen _) hrun).trans ?_
  simp only [Result.andThen_ok,Sem.run_pure]
  match vs with
  | []=>simp [oneV]
  | [v]=>simp [oneV]
  | _::_::_=>simp [oneV]
 have hv0:Rep w E (oneP ps) (oneV vs):=by
  clear hrun hres hcut
  match vs,ps,hl with
  | [v],[p],_=>exact hr 0 p v rfl rfl
  | [],[],_=>exact .tu _ _ (by simp) (by simp)
  | v::v'::vs,p::p'::ps,hl=>exact .tu _ _ (by simpa using hl) fun j q x hq hx=>hr j q x hq (by simpa using hx)
 generalize oneV vs=v0 at hres hv0
 have h0:RepSt F [oneP ps] m { tmps:=#[v0],defers:=[] } w:=by
  refine ⟨E,hk,hs1,hs2,hb0,hu0,rfl,rfl,fun i p hp=>?_⟩
  cases i with
  | zero=>
   obtain rfl:oneP ps=p:=by simpa using hp
   exact hv0
  | succ i=>simp at hp
 obtain ⟨E',k1,k2,k3,k4,_,_,k5⟩:=RepSt.cuts hcut rfl h0
 exact ⟨_,E',hres,k1,k2,k3,k4,k5.2 0 r rfl⟩
theorem callM_of {f:FuncId} {fn:Func} {c:Code} (hf:P.funcs[f]?=some fn) (hb:fn.body=some c) {n:Nat} (hn:fn.ntmps=n) {rs:Array ResultVar} (hrs:fn.results=rs) {args:List PV} {m0:Mem} {r:PV} {m1:Mem}
 (h:∀ Q:Exit→List PV→Mem→Prop,(∀ t m,Fin P m0.length rs r m1 t m→Q .ret t m)→(∀ t m,Fin P m0.length rs r m1 t m→Q .normal t m)→pwp P m0.length c Q (args++List.replicate (n-args.length) .ud) m0):CallM P f args m0 r m1:=by
 subst hn hrs
 intro S β w vs ω hk hl hargs
 let F:Fr:=⟨w,own0 β,β,m0.length,S,ω⟩
 have hr0:RepSt F (args++List.replicate (fn.ntmps-args.length) .ud) m0 { tmps:=vs++Array.replicate (fn.ntmps-vs.size) undef,defers:=[] } w:=by
  refine ⟨E1 S β m0.length ω,hk,fun b hb=>hb,⟨fun b hb=>.inl hb,fun b q hb=>.inl hb⟩,fun l B hl hB=>hB,fun l hl=>hl,rfl,by simp [hl],fun i p hp=>?_⟩
  rcases Nat.lt_or_ge i args.length with hi | hi
  ·rw [List.getElem?_append_left hi] at hp
   obtain ⟨x,hx,hr⟩:=hargs i p hp
   have hiv:i<vs.size:=by rw [hl]; exact hi
   have e:(vs++Array.replicate (fn.ntmps-vs.size) undef).getD i undef=x:=by
    rw [Array.getD_eq_getD_getElem?,Array.getElem?_append_left hiv,hx]; rfl
   rw [e]; exact hr
  ·rw [List.getElem?_append_right hi] at hp
   have hlt:=(List.getElem?_eq_some_iff.1 hp).1
   rw [List.length_replicate] at hlt
   rw [List.getElem?_replicate,if_pos hlt] at hp
   cases hp
   have e:(vs++Array.replicate (fn.ntmps-vs.size) undef).getD i undef=undef:=by
    rw [Array.getD_eq_getD_getElem?,Array.getElem?_append_right (by omega)]
    simp only [Array.getElem?_replicate]
    split <;> rfl
   rw [e]; exact .c .ud
 refine calls_of_wp hf hb (Code.wp_mono ?_ (pwp_sound (F:=F) c (fun e t m=>(e=.ret∨e=.normal)∧Fin P m0.length fn.results r m1 t m) _ _ _ w (h _ (fun t m h=>⟨.inl rfl,h⟩) (fun t m h=>⟨.inr rfl,h⟩)) hr0))
 rintro e a w' ⟨t,m,⟨he,hfin⟩,hr⟩
 have hd:a.defers=[]:=by obtain ⟨_,_,_,_,_,_,hd,_⟩:=hr; exact hd
 obtain ⟨v,E',hrun,k1,k2,k3,k4,k5⟩:=Fin_sound hr hfin
 have key:bodyPost P fn (fun e w'=>∃ v E',e=.returned v∧Ok w (own0 β) E' w' m1∧(∀ b,S b→E'.S b)∧(∀ b,E'.S b→S b∨w.heap.size≤b∨own0 β b)∧((∀ l B,l<m0.length→E'.β l=some B→β l=some B)∧∀ b q,E'.ω b q→ω b q∨w.heap.size≤b∨own0 β b)∧Rep w' E' r v) .ret a w':=
  ⟨hd,v,hrun,v,E',rfl,k1,k2,k3.1,⟨k4,k3.2⟩,k5⟩
 rcases he with rfl | rfl
 ·exact key
 ·exact key
end
theorem nrfl {α:Sort _} {a b:α} (h:a=b):a=b:=h
abbrev vi (n:Int):PV:=.v (.int .i64 n)
abbrev v8 (n:Int):PV:=.v (.int .u8 n)
abbrev vb (b:Bool):PV:=.v (.bool b)
abbrev vs (s:ByteArray):PV:=.v (.string s)
abbrev w64 (n:Int):Int:=IntKind.i64.wrap n
/-! ### The other side: what the code says,as_ a function; an answer is none where Go would panic. -/
def chk (b:Bool):Option Unit:=cond b (some ()) none
def getI {α:Type} (xs:List α) (i:Int):Option α:=if 0≤i then xs[i.toNat]? else none
def getB (s:ByteArray) (i:Int):Option Int:=if 0≤i∧i<s.size then some (byteAt s i.toNat) else none
def appOk (n bytes:Nat):Bool:=decide (n≤1099511627776∧n*bytes≤140737488355328)
def slOk (l h n:Int):Bool:=decide (0≤l∧l≤h∧h≤n)
def subL {α:Type} (xs:List α) (l h:Int):List α:=(xs.drop l.toNat).take (h.toNat-l.toNat)
def subS (s:ByteArray) (l h:Int):ByteArray:=s.extract l.toNat h.toNat
abbrev selim {σ ο δ:Type} (f:σ→δ) (g:ο→δ):σ ⊕ ο→δ
 | .inl a=>f a
 | .inr b=>g b
def iterF {σ ο:Type} (body:σ→Option (σ ⊕ ο)):Nat→σ→Option ο
 | 0,_=>none
 | n+1,s=>(body s).bind (selim (iterF body n) some)
def NN:Nat:=1152921504606846976
section
variable {α β γ δ σ ο:Type}
theorem H0 {x:Option α} {r:α} (h:x=some r):x.bind some=some r:=by rw [h]; rfl
theorem Hc1 {b:Bool} {A B:Option α} {K:α→Option β} {r:β} (h:(cond b A B).bind K=some r) (hb:b=true):A.bind K=some r:=by subst hb; exact h
theorem Hc2 {b:Bool} {A B:Option α} {K:α→Option β} {r:β} (h:(cond b A B).bind K=some r) (hb:b=false):B.bind K=some r:=by subst hb; exact h
theorem Hcall {x:Option α} {F:α→Option β} {K:β→Option γ} {r:γ} (h:(x.bind F).bind K=some r):∃ a,x=some a∧(F a).bind K=some r:=by
 cases x with
 | none=>cases h
 | some a=>exact ⟨a,rfl,h⟩
theorem Hchk {b:Bool} {F:Unit→Option β} {K:β→Option γ} {r:γ} (h:((chk b).bind F).bind K=some r):b=true∧(F ()).bind K=some r:=by
 cases b with
 | false=>cases h
 | true=>exact ⟨rfl,h⟩
theorem Hlp {x:Option ο} {G:ο→Option β} {K:β→Option γ} {r:γ} (h:(x.bind G).bind K=some r):x.bind (fun o=>(G o).bind K)=some r:=by
 cases x with
 | none=>cases h
 | some a=>exact h
theorem Hrd {body:σ→Option (σ ⊕ ο)} {n:Nat} {s:σ} {K:ο→Option β} {r:β} (h:(iterF body (n+1) s).bind K=some r):(body s).bind (selim (fun s'=>(iterF body n s').bind K) K)=some r:=by
 unfold iterF at h
 cases hb:body s with
 | none=>rw [hb] at h; cases h
 | some o=>
  rw [hb] at h
  cases o with
  | inl s'=>exact h
  | inr o=>exact h
theorem Hno {body:σ→Option (σ ⊕ ο)} {s:σ} {K:ο→Option β} {r:β} (h:(iterF body 0 s).bind K=some r):False:=by cases h
theorem Hret {a r:α} (h:some a=some r):a=r:=Option.some.inj h
end
class CT (P:Program) {R:Type} (x:Option R) where
 f:FuncId
 args:List PV
 m0:Mem
 res:R→PV
 mem:R→Mem
 ok:∀ {r:R},x=some r→CallM P f args m0 (res r) (mem r)
class LoopE {σ ο:Type} (body:σ→Option (σ ⊕ ο)) where
 T:σ→List PV
 M:σ→Mem
class PlainC {α:Type} (f:α→List PV):Prop where
 h:∀ x,∀ q∈f x,isC q=true
class FlatC {α:Type} (f:α→List PV):Prop where
 h:∀ x,∀ q∈f x,isF q=true
/-! ### The walk's rewriting. -/
def U:Nat→List PV→List PV
 | 0,l=>l
 | n+1,l=>.un::U n l
theorem U_z (l:List PV):U 0 l=l:=nrfl rfl
theorem U_s (n:Nat) (l:List PV):U (n+1) l=.un::U n l:=nrfl rfl
theorem set_z (a b:PV) (as_:List PV):(a::as_).set 0 b=b::as_:=nrfl rfl
theorem set_s (a b:PV) (as_:List PV) (n:Nat):(a::as_).set (n+1) b=a::as_.set n b:=nrfl rfl
theorem getD_z (a d:PV) (as_:List PV):(a::as_).getD 0 d=a:=nrfl rfl
theorem getD_s (a d:PV) (as_:List PV) (n:Nat):(a::as_).getD (n+1) d=as_.getD n d:=nrfl rfl
theorem ops_z {α:Type} (a:α) (as_:List α):(a::as_)[0]?=some a:=nrfl rfl
theorem ops_s {α:Type} (a:α) (as_:List α) (n:Nat):(a::as_)[n+1]?=as_[n]?:=nrfl rfl
theorem ops_a {α:Type} (as_:List α) (n:Nat):as_.toArray[n]?=as_[n]?:=nrfl (by simp)
section
variable {P:Program} {ops:Array Oper} {K:List PV→Mem→Prop} {KD:List LE→List PV→Mem→Prop} {rest:List Oper} {t:List PV} {m:Mem} {d:Option Tmp} {o:Op} {ty:TypeId} {pos:String} {af:Array Edge} {j:Nat} {b:Bool} {KA:PV→Mem→Prop} {KR:PV→Prop} {io:Bool} {wd ν base i:Nat} {g:List LE} {fl:List Nat}
def nxt (P:Program) (ops:Array Oper) (K:List PV→Mem→Prop) (rest:List Oper) (t:List PV) (d:Option Tmp) (p:PV) (m:Mem):Prop:=pops P ops K rest (putP t d p) m
def atM (K:PV→Mem→Prop) (m:Mem) (p:PV):Prop:=K p m
def rgo (P:Program) (ops:Array Oper) (K:List PV→Mem→Prop) (rest:List Oper) (d:Option Tmp) (o:Op) (m:Mem) (t:List PV):Prop:=popA P true 16 m.length o t m (nxt P ops K rest t d)
def pgo (P:Program) (ops:Array Oper) (K:List PV→Mem→Prop) (rest:List Oper) (d:Option Tmp) (m:Mem) (t:List PV):Prop:=pops P ops K rest (putP t d .ud) m
def gate2 (c:Bool) (y n:List PV→Prop) (t:List PV) (i:Nat):Prop:=gate c (y (t.set i (.v (.bool true)))) (n (t.set i (.v (.bool false))))
def gdV (p:PV) (i:Nat) (t:List PV) (b:Bool) (run pass:List PV→Prop):Prop:=
 match p,b with
 | .v (.bool c),true=>gate2 c run pass t i
 | .v (.bool c),false=>gate2 c pass run t i
 | .ud,_=>pass t
 | _,_=>False
def gd (d:Option Tmp) (t:List PV) (b:Bool) (run pass:List PV→Prop):Prop:=
 match d with
 | none=>pass t
 | some d=>gdV (t.getD d .un) d t b run pass
theorem nxt_app {p:PV}:nxt P ops K rest t d p m=pops P ops K rest (putP t d p) m:=nrfl rfl
theorem atM_app {p:PV}:atM KA m p=KA p m:=nrfl rfl
theorem rgo_app:rgo P ops K rest d o m t=popA P true 16 m.length o t m (nxt P ops K rest t d):=nrfl rfl
theorem pgo_app:pgo P ops K rest d m t=pops P ops K rest (putP t d .ud) m:=nrfl rfl
theorem gate2_tt {y n:List PV→Prop} {i:Nat}:gate2 true y n t i=y (t.set i (.v (.bool true))):=by simp [gate2,gate]
theorem gate2_ff {y n:List PV→Prop} {i:Nat}:gate2 false y n t i=n (t.set i (.v (.bool false))):=by simp [gate2,gate]
theorem gate2_intro {c:Bool} {y n:List PV→Prop} {i:Nat} (h1:c=true→y (t.set i (.v (.bool true)))) (h2:c=false→n (t.set i (.v (.bool false)))):gate2 c y n t i:=⟨h1,h2⟩
theorem pops_nil:pops P ops K [] t m=K t m:=nrfl rfl
theorem pops_go:pops P ops K (⟨d,o,ty,pos,af,none⟩::rest) t m=popA P true 16 m.length o t m (nxt P ops K rest t d):=nrfl rfl
theorem pops_gd:pops P ops K (⟨d,o,ty,pos,af,some (j,b)⟩::rest) t m=gd ((ops[j]?).bind (·.dst)) t b (rgo P ops K rest d o m) (pgo P ops K rest d m):=by
 cases h:(ops[j]?).bind (·.dst) with
 | none=>simp only [pops,h,gd,pgo]
 | some d'=>
  simp only [pops,h,gd]
  generalize t.getD d' .un=p
  cases p with
  | v x=>cases x <;> cases b <;> rfl
  | _=>cases b <;> rfl
/-! Where the order is drawn. -/
def nxd (P:Program) (wd base:Nat) (fl:List Nat) (ops:Array Oper) (K:List LE→List PV→Mem→Prop) (i:Nat) (rest:List Oper) (g:List LE) (t:List PV) (d:Option Tmp) (p:PV) (m:Mem):Prop:=popsD P wd base fl ops K i rest g (putP t d p) m
def rgd (P:Program) (wd base:Nat) (fl:List Nat) (ops:Array Oper) (K:List LE→List PV→Mem→Prop) (i:Nat) (rest:List Oper) (g:List LE) (oo:Oper) (m:Mem) (t:List PV):Prop:=
 popA P false wd (base+wd*i) oo.op t m (nxd P wd base fl ops K (i+1) rest (g++[leOf ops oo t wd (base+wd*i)]) t oo.dst)
def pgd (P:Program) (wd base:Nat) (fl:List Nat) (ops:Array Oper) (K:List LE→List PV→Mem→Prop) (i:Nat) (rest:List Oper) (g:List LE) (oo:Oper) (m:Mem) (t:List PV):Prop:=popsD P wd base fl ops K (i+1) rest (g++[le0 ops oo]) (putP t oo.dst .ud) m
def nxe (P:Program) (wd base:Nat) (fl:List Nat) (ops:Array Oper) (K:List LE→List PV→Mem→Prop) (i:Nat) (rest:List Oper) (g:List LE) (oo:Oper) (ν:Nat) (t:List PV) (ρ:List Nat) (p:PV) (m:Mem):Prop:=popsD P wd base fl ops K i rest (g++[leIO ops oo ρ wd ν]) (putP t oo.dst p) m
def rge (P:Program) (wd base:Nat) (fl:List Nat) (ops:Array Oper) (K:List LE→List PV→Mem→Prop) (i:Nat) (rest:List Oper) (g:List LE) (oo:Oper) (m:Mem) (t:List PV):Prop:=
 if ioAt fl i=true then popI P wd (base+wd*i) oo.op t m (nxe P wd base fl ops K (i+1) rest g oo (base+wd*i) t) else rgd P wd base fl ops K i rest g oo m t
theorem nxe_app {oo:Oper} {ν:Nat} {ρ:List Nat} {p:PV}:nxe P wd base fl ops KD i rest g oo ν t ρ p m=popsD P wd base fl ops KD i rest (g++[leIO ops oo ρ wd ν]) (putP t oo.dst p) m:=nrfl rfl
theorem rge_app {oo:Oper}:rge P wd base fl ops KD i rest g oo m t=if ioAt fl i=true then popI P wd (base+wd*i) oo.op t m (nxe P wd base fl ops KD (i+1) rest g oo (base+wd*i) t) else rgd P wd base fl ops KD i rest g oo m t:=nrfl rfl
theorem ioAt_nil {i:Nat}:ioAt [] i=false:=nrfl rfl
theorem ioAt_cons {a i:Nat} {l:List Nat}:ioAt (a::l) i=if a=i then true else ioAt l i:=nrfl rfl
theorem popI_call {wd ν:Nat} {f:FuncId} {xs:List Operand} {Ts:Array TypeId} {K:List Nat→PV→Mem→Prop}:popI P wd ν (.call ⟨.value (.func f),xs.toArray,Ts⟩) t m K=(isFn P f∧pIO P wd ν f (xs.map (evP t)) m K):=nrfl rfl
theorem nxd_app {p:PV}:nxd P wd base fl ops KD i rest g t d p m=popsD P wd base fl ops KD i rest g (putP t d p) m:=nrfl rfl
theorem popsD_nil:popsD P wd base fl ops KD i [] g t m=KD g t m:=by unfold popsD; rfl
theorem popsD_go:popsD P wd base fl ops KD i (⟨d,o,ty,pos,af,none⟩::rest) g t m=rge P wd base fl ops KD i rest g ⟨d,o,ty,pos,af,none⟩ m t:=by rw [popsD]; rfl
theorem popsD_gd:popsD P wd base fl ops KD i (⟨d,o,ty,pos,af,some (j,b)⟩::rest) g t m=gd ((ops[j]?).bind (·.dst)) t b (rgd P wd base fl ops KD i rest g ⟨d,o,ty,pos,af,some (j,b)⟩ m) (pgd P wd base fl ops KD i rest g ⟨d,o,ty,pos,af,some (j,b)⟩ m):=by
 rw [popsD]
 cases h:(ops[j]?).bind (·.dst) with
 | none=>simp only [h,gd,pgd]
 | some d'=>
  simp only [h,gd]
  generalize t.getD d' .un=p
  cases p with
  | v x=>cases x <;> cases b <;> rfl
  | _=>cases b <;> rfl
theorem rgd_app {oo:Oper}:rgd P wd base fl ops KD i rest g oo m t=popA P false wd (base+wd*i) oo.op t m (nxd P wd base fl ops KD (i+1) rest (g++[leOf ops oo t wd (base+wd*i)]) t oo.dst):=nrfl rfl
theorem pgd_app {oo:Oper}:pgd P wd base fl ops KD i rest g oo m t=popsD P wd base fl ops KD (i+1) rest (g++[le0 ops oo]) (putP t oo.dst .ud) m:=nrfl rfl
theorem gd_some {i:Nat} {run pass:List PV→Prop}:gd (some i) t b run pass=gdV (t.getD i .un) i t b run pass:=nrfl rfl
theorem gd_none {run pass:List PV→Prop}:gd none t b run pass=pass t:=nrfl rfl
theorem gdV_tt {i:Nat} {c:Bool} {run pass:List PV→Prop}:gdV (.v (.bool c)) i t true run pass=gate2 c run pass t i:=nrfl rfl
theorem gdV_ff {i:Nat} {c:Bool} {run pass:List PV→Prop}:gdV (.v (.bool c)) i t false run pass=gate2 c pass run t i:=nrfl rfl
theorem gdV_ud {i:Nat} {run pass:List PV→Prop}:gdV .ud i t b run pass=pass t:=by cases b <;> rfl
theorem putP_some {i:Nat} {p:PV}:putP t (some i) p=t.set i p:=nrfl rfl
theorem putP_none {p:PV}:putP t none p=t:=nrfl rfl
theorem evP_tmp {i:Nat}:evP t (.tmp i)=t.getD i .un:=nrfl rfl
theorem evP_int {k:IntKind} {n:Int}:evP t (.const (.int k n))=.v (.int k n):=nrfl rfl
theorem evP_bool {c:Bool}:evP t (.const (.bool c))=.v (.bool c):=nrfl rfl
theorem evP_str {c:ByteArray}:evP t (.const (.string c))=.v (.string c):=nrfl rfl
theorem evP_sl {a:Option Addr} {n c:Nat}:evP t (.const (.slice a n c))=.v (.slice a n c):=nrfl rfl
theorem evP_ptr {a:Option Addr}:evP t (.const (.pointer a))=.v (.pointer a):=nrfl rfl
theorem evP_func {f:FuncId}:evP t (.func f)=.v (.func (.func f) #[] #[]):=nrfl rfl
theorem popA_move {x:Operand}:popA P io wd ν (.move x) t m KA=KA (evP t x) m:=nrfl rfl
theorem popA_assign {x:Operand}:popA P io wd ν (.assign x) t m KA=KA (evP t x) m:=nrfl rfl
def pPick (c x y:PV) (K:PV→Prop):Prop:=match c with
 | .v (.bool b)=>K (if b then x else y)
 | _=>False
theorem pPick_t {x y:PV}:pPick (.v (.bool true)) x y KR=KR x:=nrfl rfl
theorem pPick_f {x y:PV}:pPick (.v (.bool false)) x y KR=KR y:=nrfl rfl
theorem popA_pick {c x y:Operand}:popA P io wd ν (.pick c x y) t m KA=pPick (evP t c) (evP t x) (evP t y) (atM KA m):=nrfl rfl
theorem popA_load {T:TypeId} {x:Operand}:popA P io wd ν (.load T x) t m KA=pLoad P T (rdp m (evP t x)) (atM KA m):=nrfl rfl
theorem popA_nilCheck {x:Operand}:popA P io wd ν (.nilCheck x) t m KA=pNil m (evP t x) (atM KA m):=nrfl rfl
theorem popA_binOp {op:BinOp} {T T':TypeId} {x y:Operand}:popA P io wd ν (.binOp op T x y T') t m KA=pBin P op T (evP t x) (evP t y) (atM KA m):=nrfl rfl
theorem popA_unOp {op:UnOp} {T:TypeId} {x:Operand}:popA P io wd ν (.unOp op T x) t m KA=pUn op (evP t x) (atM KA m):=nrfl rfl
theorem popA_convert {T T':TypeId} {x:Operand}:popA P io wd ν (.convert T T' x) t m KA=pConvM P m T T' (evP t x) (atM KA m):=nrfl rfl
theorem popA_slice {T:TypeId} {x:Operand} {lo hi:Option Operand}:popA P io wd ν (.slice T x lo hi none) t m KA=pSlice P m T (evP t x) (lo.map (evP t)) (hi.map (evP t)) (atM KA m):=nrfl rfl
theorem popA_fieldAddr {T:TypeId} {x:Operand} {f:Nat}:popA P io wd ν (.fieldAddr T x f) t m KA=pFieldAddr P m T (evP t x) f (atM KA m):=nrfl rfl
theorem popA_field {T:TypeId} {x:Operand} {f:Nat}:popA P io wd ν (.field T x f) t m KA=pField P T (evP t x) f (atM KA m):=nrfl rfl
theorem popA_indexAddr {T:TypeId} {x y:Operand}:popA P io wd ν (.indexAddr T x y) t m KA=pIndexAddr P m T (evP t x) (evP t y) (atM KA m):=nrfl rfl
theorem popA_index {T:TypeId} {x y:Operand}:popA P io wd ν (.index T x y) t m KA=pIndex P T (evP t x) (evP t y) (atM KA m):=nrfl rfl
theorem popA_extract {x:Operand} {i:Nat}:popA P io wd ν (.extract x i) t m KA=pExt i (evP t x) (atM KA m):=nrfl rfl
theorem popA_build {T:TypeId} {ps:List (Nat × Operand)}:popA P io wd ν (.build T ps.toArray) t m KA=pBuild P T (ps.map fun q=>(q.1,evP t q.2)) (atM KA m):=nrfl rfl
theorem popA_makeFunc {f:FuncId} {cs:List Operand}:popA P io wd ν (.makeFunc (.func f) #[] cs.toArray) t m KA=KA (.fn f (cs.map (evP t))) m:=nrfl rfl
theorem popA_len {x:Operand} {T:TypeId}:popA P io wd ν (.call ⟨.builtin .len,#[x],#[T]⟩) t m KA=pLen P m T (evP t x) (atM KA m):=nrfl rfl
theorem popA_min {x y:Operand} {T T':TypeId}:popA P io wd ν (.call ⟨.builtin .min,#[x,y],#[T,T']⟩) t m KA=pMinMax false [evP t x,evP t y] (atM KA m):=nrfl rfl
theorem popA_max {x y:Operand} {T T':TypeId}:popA P io wd ν (.call ⟨.builtin .max,#[x,y],#[T,T']⟩) t m KA=pMinMax true [evP t x,evP t y] (atM KA m):=nrfl rfl
theorem popA_alloc {T:TypeId}:popA P io wd ν (.alloc T) t m KA=pBox ν m T (pz P T) KA:=nrfl rfl
theorem popA_box {T:TypeId} {x:Operand}:popA P io wd ν (.box T x) t m KA=pBox ν m T (pc (evP t x)) KA:=nrfl rfl
theorem popA_buildSlice {T:TypeId} {n:Nat} {ps:List (Nat × Operand)}:popA P io wd ν (.buildSlice T n ps.toArray) t m KA=pBuildSlice P ν m T n (ps.map fun q=>(q.1,evP t q.2)) KA:=nrfl rfl
theorem popA_makeSlice {T:TypeId} {x y:Operand}:popA P io wd ν (.makeSlice T x y) t m KA=pMake P ν m T (evP t x) (evP t y) KA:=nrfl rfl
theorem popA_store {T:TypeId} {x y:Operand}:popA P io wd ν (.store T x y) t m KA=pStore P m T (evP t x) (evP t y) KA:=nrfl rfl
theorem popA_append {x y:Operand} {T:TypeId}:popA P io wd ν (.call ⟨.builtin .append,#[x,y],#[T,T]⟩) t m KA=pAppend P ν m T (evP t x) (evP t y) KA:=by
 have:popA P io wd ν (.call ⟨.builtin .append,#[x,y],#[T,T]⟩) t m KA=(T=T∧pAppend P ν m T (evP t x) (evP t y) KA):=rfl
 rw [this]; simp
theorem popA_call {f:FuncId} {xs:List Operand} {Ts:Array TypeId}:popA P io wd ν (.call ⟨.value (.func f),xs.toArray,Ts⟩) t m KA=(isFn P f∧pCall P io wd ν f (xs.map (evP t)) m KA):=nrfl rfl
def pDyn (P:Program) (io:Bool) (wd ν:Nat) (p:PV) (ps:List PV) (m:Mem) (K:PV→Mem→Prop):Prop:=match p with
 | .fn f cs=>(∀ c∈cs,isR c=true)∧isFn P f∧pCall P io wd ν f (ps++cs) m K
 | _=>False
theorem popA_dyn {i:Nat} {xs:List Operand} {Ts:Array TypeId}:popA P io wd ν (.call ⟨.value (.tmp i),xs.toArray,Ts⟩) t m KA=pDyn P io wd ν (t.getD i .un) (xs.map (evP t)) m KA:=nrfl rfl
theorem optK_some {v:Value}:optK (some v) KR=KR (.v v):=nrfl rfl
theorem rdp_be {l i o:Nat}:rdp m (.be l i o)=((look m l).bind fun mb=>(mb.es[i]?).map (·.drop o)):=by
 unfold look rdp
 cases h:m[l]? with
 | none=>simp [h]
 | some x=>cases x <;> simp [h]
theorem look_z {x:Option MB} {m:Mem}:look (x::m) 0=x:=by unfold look; cases x <;> rfl
theorem look_s {x:Option MB} {m:Mem} {n:Nat}:look (x::m) (n+1)=look m n:=nrfl rfl
theorem mput_z {x:Option MB} {m:Mem} {mb:MB}:mput (x::m) 0 mb=some mb::m:=by simp [mput]
theorem mput_s {x:Option MB} {m:Mem} {n:Nat} {mb:MB}:mput (x::m) (n+1) mb=x::mput m n mb:=by
 unfold mput
 rw [show n+1+1-(x::m).length=n+1-m.length by simp]
 rfl
theorem mput_n0 {mb:MB}:mput [] 0 mb=[some mb]:=nrfl rfl
theorem mput_ns {n:Nat} {mb:MB}:mput [] (n+1) mb=none::mput [] n mb:=by
 unfold mput
 simp [List.replicate_succ]
theorem mset_z {α:Type} (a b:α) (as_:List α):(a::as_).set 0 b=b::as_:=nrfl rfl
theorem mset_s {α:Type} (a b:α) (as_:List α) (n:Nat):(a::as_).set (n+1) b=a::as_.set n b:=nrfl rfl
theorem setR_z (c q:PV) (cs qs:List PV):setR (c::cs) 0 (q::qs)=q::setR cs 0 qs:=by simp [setR]
theorem setR_e (cs:List PV):setR cs 0 []=cs:=by simp [setR]
theorem setR_s (c:PV) (cs qs:List PV) (n:Nat):setR (c::cs) (n+1) qs=c::setR cs n qs:=by
 simp only [setR,List.take_succ_cons,List.cons_append]
 rw [show n+1+qs.length=(n+qs.length)+1 by omega,List.drop_succ_cons]
theorem rapp_z {α:Type} (bs:List α):List.append [] bs=bs:=nrfl rfl
theorem rapp_s {α:Type} (a:α) (as_ bs:List α):List.append (a::as_) bs=a::List.append as_ bs:=nrfl rfl
theorem sig_n {ν i:Nat}:sig [] ν i=ν+i:=by simp [sig]
theorem sig_z {a ν:Nat} {ρ:List Nat}:sig (a::ρ) ν 0=a:=nrfl rfl
theorem sig_s {a ν i:Nat} {ρ:List Nat}:sig (a::ρ) ν (i+1)=sig ρ ν i:=by
 unfold sig
 simp only [List.length_cons,Nat.add_lt_add_iff_right,List.getD_cons_succ,Nat.add_sub_add_right]
theorem renEs_map {α:Type} {f:α→List PV} [hf:PlainC f] {σ:Nat→Nat} {xs:List α}:renEs σ (xs.map f)=xs.map f:=by
 unfold renEs
 rw [List.map_map]
 apply List.map_congr_left
 intro x _
 have h1:=hf.h x
 show (f x).map (renC σ)=f x
 generalize f x=cs at h1
 induction cs with
 | nil=>rfl
 | cons c cs ih=>
  rw [List.map_cons,ih fun q hq=>h1 q (List.mem_cons_of_mem _ hq)]
  congr 1
  have hc:=h1 c List.mem_cons_self
  have k1:∀ {d:PV},isC1 d=true→ren1 σ d=d:=fun {d} hd=>by cases d <;> simp_all [isC1,ren1]
  cases c with
  | fn g ds=>
   simp only [isC,List.all_eq_true] at hc
   simp only [renC]
   congr 1
   have e:ds.map (ren1 σ)=ds.map id:=List.map_congr_left fun d hd=>k1 (hc d hd)
   rw [e,List.map_id]
  | _=>simp_all [isC,isC1,renC,ren1]
theorem renEs_nil {σ:Nat→Nat}:renEs σ []=[]:=nrfl rfl
theorem renEs_cons {σ:Nat→Nat} {c:List PV} {cs:List (List PV)}:renEs σ (c::cs)=c.map (renC σ)::renEs σ cs:=nrfl rfl
theorem rowC_map {α:Type} {f:α→List PV} [hf:PlainC f] {xs:List α}:rowC (xs.map f):=by
 intro cs hcs q hq
 obtain ⟨x,_,rfl⟩:=List.mem_map.1 hcs
 exact hf.h x q hq
theorem rowQ_map {α:Type} {f:α→List PV} [hf:PlainC f] {xs:List α}:(∀ cs∈xs.map f,∀ q∈cs,isC q=true)=True:=by
 simp only [eq_iff_iff,iff_true]; exact rowC_map
theorem goodC_of {c:PV} (h:isC c=true):goodC false c:=by
 cases c with
 | fn f cs=>
  simp only [isC,List.all_eq_true] at h
  exact ⟨rfl,fun d hd=>by have:=h d hd; cases d <;> simp_all [isC1,isR]⟩
 | _=>intro h; cases h
theorem goodF_of {c:PV} (h:isF c=true):goodC true c:=by
 cases c <;> first | exact fun _=>h | simp [isF] at h
theorem goodD_map {α:Type} {f:α→List PV} [hf:PlainC f] {xs:List α}:(∀ cs∈xs.map f,∀ p∈cs,goodC false p)=True:=by
 simp only [eq_iff_iff,iff_true]
 intro cs hcs q hq
 obtain ⟨x,_,rfl⟩:=List.mem_map.1 hcs
 exact goodC_of (hf.h x q hq)
theorem goodT_map {α:Type} {f:α→List PV} [hf:FlatC f] {xs:List α}:(∀ cs∈xs.map f,∀ p∈cs,goodC true p)=True:=by
 simp only [eq_iff_iff,iff_true]
 intro cs hcs q hq
 obtain ⟨x,_,rfl⟩:=List.mem_map.1 hcs
 exact goodF_of (hf.h x q hq)
theorem live_look {l:Nat} {A:MB→Prop}:live m l A=(match look m l with
 | some mb=>A mb
 | none=>False):=look_live A
theorem drop_mp {α β:Type} (f:α→β) (xs:List α) (n:Nat):(xs.map f).drop n=(xs.drop n).map f:=List.map_drop.symm
theorem take_mp {α β:Type} (f:α→β) (xs:List α) (n:Nat):(xs.map f).take n=(xs.take n).map f:=List.map_take.symm
theorem app_mp {α β:Type} (f:α→β) (xs ys:List α):xs.map f++ys.map f=(xs++ys).map f:=(List.map_append).symm
end
section
variable {P:Program} {n0:Nat} {Q:Exit→List PV→Mem→Prop} {t t':List PV} {m m':Mem} {K:List PV→Mem→Prop} {KR:PV→Prop} {KA:PV→Mem→Prop}
theorem thenP_normal:thenP K Q .normal t m=K t m:=rfl
theorem thenP_exit {i:Nat}:thenP K Q (.exit i) t m=Q (.exit i) t m:=rfl
theorem thenP_ret:thenP K Q .ret t m=Q .ret t m:=rfl
theorem blockP_normal {id:Nat}:blockP id Q .normal t m=Q .normal t m:=rfl
theorem blockP_exit {id i:Nat}:blockP id Q (.exit i) t m=if i=id then Q .normal t m else Q (.exit i) t m:=rfl
theorem blockP_ret {id:Nat}:blockP id Q .ret t m=Q .ret t m:=rfl
theorem pwp_seq {x y:Code} (h:∀ K:List PV→Mem→Prop,(∀ t m,pwp P n0 y Q t m→K t m)→pwp P n0 x (thenP K Q) t m):pwp P n0 (.seq x y) Q t m:=
 h (fun t m=>pwp P n0 y Q t m) (fun _ _ h=>h)
theorem pwp_block {id:Nat} {c:Code} (h:pwp P n0 c (blockP id Q) t m):pwp P n0 (.block id c) Q t m:=h
def condP (p:PV) (A B:Prop):Prop:=match p with
 | .v (.bool b)=>(b=true→A)∧(b=false→B)
 | _=>False
theorem pwp_condE {c:Operand} {x y:Code} (h:condP (evP t c) (pwp P n0 x Q t m) (pwp P n0 y Q t m)):pwp P n0 (.cond c x y) Q t m:=by
 unfold condP at h
 split at h
 ·rename_i b hb
  simp only [pwp,hb]
  cases b with
  | true=>simpa using h.1 rfl
  | false=>simpa using h.2 rfl
 ·exact h.elim
theorem condP_tt {A B:Prop} (h:A):condP (.v (.bool true)) A B:=⟨fun _=>h,fun h=>by cases h⟩
theorem condP_ff {A B:Prop} (h:B):condP (.v (.bool false)) A B:=⟨fun h=>(by cases h),fun _=>h⟩
theorem condP_intro {b:Bool} {A B:Prop} (h1:b=true→A) (h2:b=false→B):condP (.v (.bool b)) A B:=⟨h1,h2⟩
theorem pwp_skip (h:Q .normal t m):pwp P n0 .skip Q t m:=h
theorem pwp_exit {i:Nat} (h:Q (.exit i) t m):pwp P n0 (.exit i) Q t m:=h
theorem pwp_ret (h:Q .ret t m):pwp P n0 .ret Q t m:=h
theorem pwp_region {id:Nat} {ops:List Oper} (h:pops P ops.toArray (Q .normal) ops t m):pwp P n0 (.region id ops.toArray false) Q t m:=.inl h
def endD (ops:List Oper) (K:List PV→Mem→Prop) (g:List LE) (t:List PV) (m:Mem):Prop:=chkD ops g=true∧K t m
theorem pwp_draw {id:Nat} {ops:List Oper} (h1:P.follows .mixedOrders=true) (h:popsD P 4 m.length [] ops.toArray (endD ops (Q .normal)) 0 ops [] t m):pwp P n0 (.region id ops.toArray true) Q t m:=.inl ⟨h1,4,[],by decide,h⟩
theorem pwp_drawE {id wd:Nat} {fl:List Nat} {ops:List Oper} (hwd:decide (0<wd)=true) (h1:P.follows .mixedOrders=true) (h:popsD P wd m.length fl ops.toArray (endD ops (Q .normal)) 0 ops [] t m):pwp P n0 (.region id ops.toArray true) Q t m:=.inl ⟨h1,wd,fl,of_decide_eq_true hwd,h⟩
theorem endD_intro {ops:List Oper} {g:List LE} (h1:chkD ops g=true) (h2:K t m):endD ops K g t m:=⟨h1,h2⟩
theorem pwp_loopH {c:Code} {σ ο R:Type} {body:σ→Option (σ ⊕ ο)} [E:LoopE body] {N:Nat} {s0:σ} {kont:ο→Option R} {r:R} (H:(iterF body N s0).bind kont=some r) (hcut:Cuts n0 t m (E.T s0) (E.M s0))
 (hround:∀ n s,(iterF body (n+1) s).bind kont=some r→∀ K:List PV→Mem→Prop,(∀ s' t m,(iterF body n s').bind kont=some r→Cuts n0 t m (E.T s') (E.M s')→K t m)→pwp P n0 c (thenP K Q) (E.T s) (E.M s)):pwp P n0 (.loop c) Q t m:=by
 refine ⟨fun n t m=>∃ s,(iterF body n s).bind kont=some r∧t=E.T s∧m=E.M s,N,E.T s0,E.M s0,hcut,⟨s0,H,rfl,rfl⟩,?_⟩
 rintro n t m ⟨s,hI,rfl,rfl⟩
 cases n with
 | zero=>exact (Hno hI).elim
 | succ n=>exact hround n s hI (fun t m=>∃ k t' m',k<n+1∧Cuts n0 t m t' m'∧∃ s,(iterF body k s).bind kont=some r∧t'=E.T s∧m'=E.M s) (fun s' t m h hc=>⟨n,_,_,by omega,hc,s',h,rfl,rfl⟩)
/-! Elements. -/
def elemK (P:Program) (T:TypeId):Nat:=match P.underlying T with
 | some (.slice e)=>P.cellsOf e
 | _=>0
theorem elemK_of {T:TypeId} (h:0<elemK P T):∃ e,P.underlying T=some (.slice e)∧elemK P T=P.cellsOf e:=by
 unfold elemK at *
 split at h
 ·rename_i e he; exact ⟨e,he,rfl⟩
 ·omega
theorem getI_some {α:Type} {xs:List α} {i:Int} {x:α} (h:getI xs i=some x):0≤i∧xs[i.toNat]?=some x:=by
 unfold getI at h
 split at h
 ·exact ⟨by assumption,h⟩
 ·cases h
theorem getI_lt {α:Type} {xs:List α} {i:Int} {x:α} (h:getI xs i=some x):0≤i∧i<xs.length∧xs[i.toNat]?=some x:=by
 obtain ⟨h1,h2⟩:=getI_some h
 have:=(List.getElem?_eq_some_iff.1 h2).1
 exact ⟨h1,by omega,h2⟩
theorem idx_sl {α:Type} {f:α→List PV} {xs:List α} {x:α} {T:TypeId} {i:Int} {k:IntKind} (h:getI xs i=some x) (hp:0<elemK P T) (hc:(f x).length=elemK P T) (hK:KR (.rp (f x))):pIndexAddr P m T (.sl (xs.map f)) (.v (.int k i)) KR:=by
 obtain ⟨h1,h2,h3⟩:=getI_lt h
 obtain ⟨e,hu,he⟩:=elemK_of hp
 rw [he] at hp hc
 have hd:(xs.map f).getD i.toNat []=f x:=by simp [List.getD,h3]
 simp only [pIndexAddr,hu,List.length_map]
 rw [hd]
 exact ⟨h1,h2,hp,hc,hK⟩
theorem idx_ms {α:Type} {f:α→List PV} {xs:List α} {x:α} {T:TypeId} {T':TK} {l k':Nat} {i:Int} {k:IntKind} (h:getI xs i=some x) (hm:look m l=some ⟨T',k',xs.map f⟩) (hp:0<elemK P T) (hk:k'=elemK P T) (hK:KR (.be l i.toNat 0)):pIndexAddr P m T (.ms l) (.v (.int k i)) KR:=by
 obtain ⟨h1,h2,h3⟩:=getI_lt h
 obtain ⟨e,hu,he⟩:=elemK_of hp
 rw [he] at hk
 simp only [pIndexAddr,hu,look_live,hm,List.length_map]
 exact ⟨h1,h2,hk,hK⟩
theorem idx_str {T:TypeId} {s:ByteArray} {i c:Int} {k:IntKind} (h:getB s i=some c) (hu:P.underlying T=some .string) (hK:KR (.v (.int .u8 c))):pIndex P T (.v (.string s)) (.v (.int k i)) KR:=by
 unfold getB at h
 split at h
 ·rename_i hi
  cases h
  simp only [pIndex,hu]
  exact ⟨hi.1,hi.2,hK⟩
 ·cases h
theorem opt_if {c:Prop} [Decidable c] {v:Value} (hc:c) (h:KR (.v v)):optK (if c then some v else none) KR:=by rw [if_pos hc]; exact h
theorem slice_sl {α:Type} {f:α→List PV} {xs:List α} {T:TypeId} {lo hi:Option PV} {l h:Int} (hok:slOk l h xs.length=true) (hlo:pBd lo 0=some l) (hhi:pBd hi xs.length=some h) (hp:0<elemK P T) (hf:∀ x,(f x).length=elemK P T) (hK:KR (.sl ((subL xs l h).map f))):pSlice P m T (.sl (xs.map f)) lo hi KR:=by
 obtain ⟨e,hu,he⟩:=elemK_of hp
 rw [he] at hp hf
 have hok':=of_decide_eq_true hok
 simp only [pSlice,hu,List.length_map,hlo,hhi]
 refine ⟨hok'.1,hok'.2.1,hok'.2.2,hp,fun cs hcs=>?_,?_⟩
 ·obtain ⟨x,_,rfl⟩:=List.mem_map.1 hcs
  exact hf x
 ·rw [drop_mp,take_mp]; exact hK
theorem slice_str {s:ByteArray} {T:TypeId} {lo hi:Option PV} {l h:Int} (hok:slOk l h s.size=true) (hlo:pBd lo 0=some l) (hhi:pBd hi s.size=some h) (hu:P.underlying T=some .string) (hK:KR (.v (.string (subS s l h)))):pSlice P m T (.v (.string s)) lo hi KR:=by
 have hok':=of_decide_eq_true hok
 simp only [pSlice,hu,hlo,hhi]
 exact ⟨hok'.1,hok'.2.1,hok'.2.2,hK⟩
/-! Calls. -/
theorem call_flat {f:FuncId} {ps:List PV} {r:PV} {m1:Mem} {io:Bool} {wd ν:Nat} (hs:snapA m ps (fun qs=>CallM P f qs [] r m1)) (hw:m1.length≤wd) (hm:∀ mb,some mb∈m1→∀ cs∈mb.es,∀ p∈cs,goodC true p) (hg:goodV true r) (hK:KA (renV (sig [] ν) r) (putNew (sig [] ν) ν m1 m)):pCall P io wd ν f ps m KA:=
 .inl ⟨r,m1,hs,hw,hm,hg,hK⟩
theorem isC_good {p:PV} (h:isC p=true):goodC false p∧lowC 0 p=true:=by
 refine ⟨goodC_of h,?_⟩
 cases p with
 | fn f cs=>
  simp only [isC,List.all_eq_true] at h
  simp only [lowC,List.all_eq_true]
  intro c hc
  have:=h c hc
  cases c <;> simp_all [isC1,low1]
 | _=>simp_all [isC,isC1,lowC,low1]
theorem isC_ren {σ:Nat→Nat} {p:PV} (h:isC p=true):renC σ p=p:=by
 have k1:∀ {d:PV},isC1 d=true→ren1 σ d=d:=fun {d} hd=>by cases d <;> simp_all [isC1,ren1]
 cases p with
 | fn g ds=>
  simp only [isC,List.all_eq_true] at h
  simp only [renC]
  congr 1
  have e:ds.map (ren1 σ)=ds.map id:=List.map_congr_left fun d hd=>k1 (h d hd)
  rw [e,List.map_id]
 | _=>simp_all [isC,isC1,renC,ren1]
theorem isCA_ren {σ:Nat→Nat} {p:PV} (h:isCA p=true):renA σ p=p∧goodA false p∧lowA 0 p=true:=by
 cases p with
 | ag cs=>
  simp only [isCA,List.all_eq_true] at h
  refine ⟨?_,fun c hc=>(isC_good (h c hc)).1,?_⟩
  ·simp only [renA]
   have e:cs.map (renC σ)=cs.map id:=List.map_congr_left fun d hd=>isC_ren (h d hd)
   rw [e,List.map_id]
  ·simp only [lowA,List.all_eq_true]; exact fun c hc=>(isC_good (h c hc)).2
 | tu vs=>simp [isCA] at h
 | v x=>
  have h':isC (.v x)=true:=h
  exact ⟨isC_ren (σ:=σ) h',(isC_good h').1,(isC_good h').2⟩
 | ud=>
  have h':isC (.ud)=true:=h
  exact ⟨isC_ren (σ:=σ) h',(isC_good h').1,(isC_good h').2⟩
 | un=>
  have h':isC (.un)=true:=h
  exact ⟨isC_ren (σ:=σ) h',(isC_good h').1,(isC_good h').2⟩
 | sl es=>
  have h':isC (.sl es)=true:=h
  exact ⟨isC_ren (σ:=σ) h',(isC_good h').1,(isC_good h').2⟩
 | rp cs=>
  have h':isC (.rp cs)=true:=h
  exact ⟨isC_ren (σ:=σ) h',(isC_good h').1,(isC_good h').2⟩
 | ms l=>
  have h':isC (.ms l)=true:=h
  exact ⟨isC_ren (σ:=σ) h',(isC_good h').1,(isC_good h').2⟩
 | ss l a b=>
  have h':isC (.ss l a b)=true:=h
  exact ⟨isC_ren (σ:=σ) h',(isC_good h').1,(isC_good h').2⟩
 | be l i o=>
  have h':isC (.be l i o)=true:=h
  exact ⟨isC_ren (σ:=σ) h',(isC_good h').1,(isC_good h').2⟩
 | fn f cs=>
  have h':isC (.fn f cs)=true:=h
  exact ⟨isC_ren (σ:=σ) h',(isC_good h').1,(isC_good h').2⟩
theorem call_deep {f:FuncId} {ps:List PV} {r:PV} {m1:Mem} {io:Bool} {wd ν:Nat} (hs:CallM P f ps [] r m1) (hp:∀ p∈ps,isCA p=true) (hw:m1.length≤wd) (hm:∀ mb,some mb∈m1→∀ cs∈mb.es,∀ p∈cs,goodC false p) (hg:goodV false r) (hK:KA (renV (sig [] ν) r) (putNew (sig [] ν) ν m1 m)):pCall P io wd ν f ps m KA:=by
 refine .inr ⟨[],[],ps,r,m1,.inr rfl,hs,Nat.zero_le _,by simpa using hw,?_,fun q hq=>⟨(isCA_ren (σ:=id) (hp q hq)).2.1,(isCA_ren (σ:=id) (hp q hq)).2.2⟩,List.nodup_nil,trivial,hm,hg,by simpa [putIn] using hK⟩
 have:ps.map (renA (sig [] ν))=ps.map id:=List.map_congr_left fun p h=>(isCA_ren (hp p h)).1
 rw [this,List.map_id]
/-! Appends. -/
theorem app_ms {α:Type} {f:α→List PV} {xs ys:List α} {T:TypeId} {ν l e k:Nat} {x:PV} {zc:List PV} (hok:appOk (xs.length+ys.length) (P.bytesOf e)=true) (hu:P.underlying T=some (.slice e)) (hz:pz P e=some zc) (hsrc:srcOf m x=some (ys.map f)) (hl:look m l=some ⟨e,k,xs.map f⟩)
 (hzl:zc.length=P.cellsOf e) (hp:0<P.cellsOf e) (hf:∀ x,(f x).length=P.cellsOf e) (hk:k=P.cellsOf e) (hK:KA (.ms ν) (mput (m.set l none) ν ⟨e,k,(xs++ys).map f⟩)):pAppend P ν m T (.ms l) x KA:=by
 subst hk
 have hok':=of_decide_eq_true hok
 simp only [pAppend,hu,hz,hsrc,look_live,hl,List.length_map]
 refine ⟨hzl,hp,fun cs hcs=>?_,rfl,trivial,hok'.1,hok'.2,?_⟩
 ·obtain ⟨x,_,rfl⟩:=List.mem_map.1 hcs
  exact hf x
 ·rw [app_mp]; exact hK
theorem app_nl {α:Type} {f:α→List PV} {ys:List α} {T:TypeId} {ν e:Nat} {x:PV} {zc:List PV} (hok:appOk ys.length (P.bytesOf e)=true) (hu:P.underlying T=some (.slice e)) (hz:pz P e=some zc) (hsrc:srcOf m x=some (ys.map f))
 (hzl:zc.length=P.cellsOf e) (hp:0<P.cellsOf e) (hf:∀ x,(f x).length=P.cellsOf e) (hK:KA (.ms ν) (mput m ν ⟨e,P.cellsOf e,ys.map f⟩)):pAppend P ν m T (.v (.slice none 0 0)) x KA:=by
 have hok':=of_decide_eq_true hok
 simp only [pAppend,hu,hz,hsrc,List.length_map]
 refine ⟨hzl,hp,fun cs hcs=>?_,hok'.1,hok'.2,hK⟩
 obtain ⟨x,_,rfl⟩:=List.mem_map.1 hcs
 exact hf x
/-! Cuts. -/
theorem cutT_nil {ρ:Nat→Option Nat}:cutT ρ m m' [] []:=trivial
theorem cutT_un {ρ:Nat→Option Nat} {p:PV} {ps rs:List PV} (h:cutT ρ m m' ps rs):cutT ρ m m' (p::ps) (.un::rs):=⟨.a (.c (.un p)),h⟩
theorem cutT_c {ρ:Nat→Option Nat} {p r:PV} {ps rs:List PV} (hc:CutV ρ m m' p r) (h:cutT ρ m m' ps rs):cutT ρ m m' (p::ps) (r::rs):=⟨hc,h⟩
theorem cutV_c {ρ:Nat→Option Nat} {p:PV} (h:isC p=true):CutV ρ m m' p p:=.a (.c (.c p h))
theorem cutV_k {ρ:Nat→Option Nat} {p r:PV} (h:CutC ρ m m' p r):CutV ρ m m' p r:=.a (.c h)
theorem cutV_ag {ρ:Nat→Option Nat} {cs ds:List PV} (h:cutL ρ m m' cs ds):CutV ρ m m' (.ag cs) (.ag ds):=.a (.ag cs ds h)
theorem cutA_ag {ρ:Nat→Option Nat} {cs ds:List PV} (h:cutL ρ m m' cs ds):CutA ρ m m' (.ag cs) (.ag ds):=.ag cs ds h
theorem cutA_k {ρ:Nat→Option Nat} {p r:PV} (h:CutC ρ m m' p r):CutA ρ m m' p r:=.c h
theorem cutV_tu {ρ:Nat→Option Nat} {cs ds:List PV} (h:cutAs ρ m m' cs ds):CutV ρ m m' (.tu cs) (.tu ds):=.tu cs ds h
theorem cutAs_nil {ρ:Nat→Option Nat}:cutAs ρ m m' [] []:=trivial
theorem cutAs_c {ρ:Nat→Option Nat} {p r:PV} {ps rs:List PV} (hc:CutA ρ m m' p r) (h:cutAs ρ m m' ps rs):cutAs ρ m m' (p::ps) (r::rs):=⟨hc,h⟩
theorem cutL_nil {ρ:Nat→Option Nat}:cutL ρ m m' [] []:=trivial
theorem cutL_c {ρ:Nat→Option Nat} {p r:PV} {ps rs:List PV} (hc:CutC ρ m m' p r) (h:cutL ρ m m' ps rs):cutL ρ m m' (p::ps) (r::rs):=⟨hc,h⟩
def rho (rs:List (Option Nat)) (l:Nat):Option Nat:=(rs[l]?).join
theorem rho_z {x:Option Nat} {rs:List (Option Nat)}:rho (x::rs) 0=x:=by cases x <;> rfl
theorem rho_s {x:Option Nat} {rs:List (Option Nat)} {l:Nat}:rho (x::rs) (l+1)=rho rs l:=rfl
theorem cutC_ms {rs:List (Option Nat)} {l k:Nat} (h:rho rs l=some k) (hl:decide (l<m'.length)=true):CutC (rho rs) m m' (.ms k) (.ms l):=.ms l k h (of_decide_eq_true hl)
theorem cutC_be {rs:List (Option Nat)} {l k i o:Nat} (h:rho rs l=some k) (hl:decide (l<m'.length)=true):CutC (rho rs) m m' (.be k i o) (.be l i o):=.be l k i o h (of_decide_eq_true hl)
theorem cutC_nilms {rs:List (Option Nat)} {l:Nat} (h:rho rs l=none) (hl:decide (l<m'.length)=true):CutC (rho rs) m m' (.v (.slice none 0 0)) (.ms l):=.nilms l h (of_decide_eq_true hl)
theorem cutC_nilsl {α:Type} {f:α→List PV} {ρ:Nat→Option Nat} {c:Nat}:CutC ρ m m' (.v (.slice none 0 c)) (.sl (([]:List α).map f)):=.nilsl c
def outB (rs:List (Option Nat)) (k:Nat):Bool:=rs.all fun x=>match x with
 | some j=>!decide (j=k)
 | none=>true
theorem dropped_of {rs:List (Option Nat)} {k:Nat} (h:outB rs k=true):dropped (rho rs) m' k:=by
 intro l _ he
 unfold rho at he
 cases hl:rs[l]? with
 | none=>rw [hl] at he; cases he
 | some x=>
  rw [hl] at he
  have he':x=some k:=he
  subst he'
  have:=List.all_eq_true.1 h _ (List.mem_of_getElem? hl)
  simp at this
theorem cutC_fms {rs:List (Option Nat)} {α:Type} {f:α→List PV} [PlainC f] {xs:List α} {k k':Nat} {T:TK} (hm:look m k=some ⟨T,k',xs.map f⟩) (hd:dropped (rho rs) m' k):CutC (rho rs) m m' (.ms k) (.sl (xs.map f)):=.fms k ⟨T,k',xs.map f⟩ (look_iff.1 hm) rowC_map hd
theorem cutC_fbe {rs:List (Option Nat)} {k k':Nat} {T:TK} {cs:List PV} (hm:look m k=some ⟨T,k',[cs]⟩) (hc:cs.all isC=true) (hd:dropped (rho rs) m' k):CutC (rho rs) m m' (.be k 0 0) (.rp cs):=by
 have:=CutC.fbe (ρ:=rho rs) (m:=m) (m':=m') k 0 0 ⟨T,k',[cs]⟩ cs (look_iff.1 hm) rfl (List.all_eq_true.1 hc) hd
 simpa using this
def cutF (ρ:Nat→Option Nat) (m m':Mem) (mb mb':MB):Prop:=cutB ρ m m' mb mb'∧∀ k0:Nat,m[k0]?=some (some mb)→cutK ρ m m' mb mb'
def noMs:PV→Bool
 | .ms _ | .ss ..=>false
 | _=>true
theorem cutK_n {ρ:Nat→Option Nat} {mb mb':MB} (h:mb'.T.kd=none):cutK ρ m m' mb mb':=fun T hT=>by rw [h] at hT; cases hT
theorem cutK_same {ρ:Nat→Option Nat} {mb:MB}:cutK ρ m m' mb mb:=fun _ hT _ ds _ _ hi hj _=>.inl ⟨hT,ds,hi,hj⟩
theorem cutC_sl {ρ:Nat→Option Nat} {p:PV} {es:List (List PV)} (h:CutC ρ m m' p (.sl es)) (hp:noMs p=true) (hne:es≠[]):p=.sl es:=by
 cases h with
 | c _ _=>rfl
 | nilsl c=>exact absurd rfl hne
 | fms=>cases hp
 | fss=>cases hp
theorem cutK_e {ρ:Nat→Option Nat} {T:TK} {k k':Nat} {es es':List (List PV)} (h:cutE ρ m m' es es') (hn:∀ cs∈es,∀ p∈cs,noMs p=true):cutK ρ m m' ⟨T,k,es⟩ ⟨T,k',es'⟩:=fun T1 hT i ds j l hi hj hne=>by
 obtain ⟨cs,h1,h2⟩:=(cutE_get h).2 i ds hi
 obtain ⟨p,h3,h4⟩:=(cutL_get h2).2 j _ hj
 have:=cutC_sl h4 (hn cs (List.mem_of_getElem? h1) p (List.mem_of_getElem? h3)) hne
 subst this
 exact .inl ⟨hT,cs,h1,h3⟩
def rowsOk (rs:List (Option Nat)) (m m':Mem):List (Option Nat)→Mem→Prop
 | _,[]=>True
 | r::rr,none::mm=>rowsOk rs m m' rr mm
 | some k::rr,some mb'::mm=>(∃ mb,look m k=some mb∧cutF (rho rs) m m' mb mb')∧rowsOk rs m m' rr mm
 | none::rr,some mb'::mm=>(mb'.es=[]∧0<mb'.k)∧rowsOk rs m m' rr mm
 | _,_=>False
theorem rowsOk_nil {rs rr:List (Option Nat)}:rowsOk rs m m' rr []:=by unfold rowsOk; trivial
theorem rowsOk_dead {rs rr:List (Option Nat)} {r:Option Nat} {mm:Mem} (h:rowsOk rs m m' rr mm):rowsOk rs m m' (r::rr) (none::mm):=h
theorem rowsOk_live {rs rr:List (Option Nat)} {k:Nat} {mb mb':MB} {mm:Mem} (h1:look m k=some mb) (h2:cutF (rho rs) m m' mb mb') (h:rowsOk rs m m' rr mm):rowsOk rs m m' (some k::rr) (some mb'::mm):=⟨⟨mb,h1,h2⟩,h⟩
theorem rowsOk_new {α:Type} {f:α→List PV} {rs rr:List (Option Nat)} {T:TK} {k:Nat} {mm:Mem} (hk:decide (0<k)=true) (h:rowsOk rs m m' rr mm):rowsOk rs m m' (none::rr) (some ⟨T,k,([]:List α).map f⟩::mm):=⟨⟨rfl,of_decide_eq_true hk⟩,h⟩
theorem cutB_same {α:Type} {f:α→List PV} [PlainC f] {ρ:Nat→Option Nat} {T:TK} {k:Nat} {xs:List α}:cutF ρ m m' ⟨T,k,xs.map f⟩ ⟨T,k,xs.map f⟩:=⟨⟨rfl,rfl,.inl ⟨rfl,rowC_map⟩⟩,fun _ _=>cutK_same⟩
theorem cutB_one {ρ:Nat→Option Nat} {T k:Nat} {cs ds:List PV} (h:cutL ρ m m' cs ds):cutF ρ m m' ⟨T,k,[cs]⟩ ⟨T,k,[ds]⟩:=⟨⟨rfl,rfl,.inr ⟨h,trivial⟩⟩,fun _ _=>cutK_n rfl⟩
theorem rowsOk_get {rs:List (Option Nat)}:∀ (rr:List (Option Nat)) (mm:Mem),rowsOk rs m m' rr mm→∀ l mb',mm[l]?=some (some mb')→(∃ k mb,rho rr l=some k∧m[k]?=some (some mb)∧cutF (rho rs) m m' mb mb')∨(rho rr l=none∧mb'.es=[]∧0<mb'.k)
 | _,[],_,l,mb',h=>by simp at h
 | [],none::mm,h,_,_,_=>by unfold rowsOk at h; exact h.elim
 | [],some _::mm,h,_,_,_=>by unfold rowsOk at h; exact h.elim
 | r::rr,none::mm,h,l,mb',hl=>by
  cases l with
  | zero=>simp at hl
  | succ l=>exact rowsOk_get rr mm h l mb' (by simpa using hl)
 | some k::rr,some mb::mm,h,l,mb',hl=>by
  cases l with
  | zero=>
   obtain rfl:mb=mb':=by simpa using hl
   obtain ⟨⟨mb0,h1,h2⟩,_⟩:=h
   exact .inl ⟨k,mb0,rfl,look_iff.1 h1,h2⟩
  | succ l=>exact rowsOk_get rr mm h.2 l mb' (by simpa using hl)
 | none::rr,some mb::mm,h,l,mb',hl=>by
  cases l with
  | zero=>
   obtain rfl:mb=mb':=by simpa using hl
   exact .inr ⟨rfl,h.1⟩
  | succ l=>exact rowsOk_get rr mm h.2 l mb' (by simpa using hl)
def injB:List (Option Nat)→Bool
 | []=>true
 | none::rs=>injB rs
 | some k::rs=>outB rs k && injB rs
theorem injB_inj:∀ (rs:List (Option Nat)),injB rs=true→∀ l l' k,rho rs l=some k→rho rs l'=some k→l=l'
 | [],_,l,l',k,h,_=>by simp [rho] at h
 | x::rs,hb,l,l',k,h,h'=>by
  have hout:∀ {j:Nat},x=some k→rho rs j=some k→False:=by
   rintro j rfl hj
   simp only [injB,Bool.and_eq_true] at hb
   have:=dropped_of (m':=[]) hb.1
   unfold rho at hj
   cases hl:rs[j]? with
   | none=>rw [hl] at hj; cases hj
   | some y=>
    rw [hl] at hj
    have hy:y=some k:=hj
    subst hy
    have:=List.all_eq_true.1 hb.1 _ (List.mem_of_getElem? hl)
    simp at this
  have hrest:injB rs=true:=by cases x <;> simp_all [injB]
  cases l with
  | zero=>
   rw [rho_z] at h
   cases l' with
   | zero=>rfl
   | succ l'=>exact (hout h (by simpa [rho_s] using h')).elim
  | succ l=>
   rw [rho_s] at h
   cases l' with
   | zero=>rw [rho_z] at h'; exact (hout h' h).elim
   | succ l'=>rw [injB_inj rs hrest l l' k h (by simpa [rho_s] using h')]
def lowB:Nat→Nat→List (Option Nat)→Mem→Bool
 | 0,_,_,_=>true
 | _+1,_,_,[]=>false
 | n+1,i,rs,none::m=>lowB n (i+1) (rs.drop 1) m
 | n+1,i,some k::rs,some _::m=>decide (k=i) && lowB n (i+1) rs m
 | _,_,_,_=>false
theorem lowB_low:∀ (n i:Nat) (rs:List (Option Nat)) (m':Mem),lowB n i rs m'=true→n≤m'.length∧∀ l,l<n→liveB m' l=true→rho rs l=some (i+l)
 | 0,i,rs,m',_=>⟨Nat.zero_le _,fun l hl=>by omega⟩
 | n+1,i,rs,[],h=>by simp [lowB] at h
 | n+1,i,rs,none::m,h=>by
  simp only [lowB] at h
  obtain ⟨h1,h2⟩:=lowB_low n (i+1) (rs.drop 1) m h
  refine ⟨by simp; omega,fun l hl hlv=>?_⟩
  cases l with
  | zero=>simp [liveB] at hlv
  | succ l=>
   have:=h2 l (by omega) (by simpa [liveB] using hlv)
   cases rs with
   | nil=>simp [rho] at this
   | cons x rs=>
    rw [rho_s]
    rw [show i+(l+1)=i+1+l by omega]
    simpa using this
 | n+1,i,some k::rs,some mb::m,h=>by
  simp only [lowB,Bool.and_eq_true,decide_eq_true_eq] at h
  obtain ⟨h1,h2⟩:=lowB_low n (i+1) rs m h.2
  refine ⟨by simp; omega,fun l hl hlv=>?_⟩
  cases l with
  | zero=>rw [rho_z,h.1]; rfl
  | succ l=>
   rw [rho_s,show i+(l+1)=i+1+l by omega]
   exact h2 l (by omega) (by simpa [liveB] using hlv)
 | n+1,i,none::rs,some mb::m,h=>by simp [lowB] at h
 | n+1,i,[],some mb::m,h=>by simp [lowB] at h
theorem cut_mk {rs:List (Option Nat)} (hT:cutT (rho rs) m m' t t') (hM:rowsOk rs m m' rs m') (hi:injB rs=true) (hl:lowB n0 0 rs m'=true):Cuts n0 t m t' m':=
 .one ⟨rho rs,hT,fun l mb' hm=>(rowsOk_get rs m' hM l mb' hm).imp (fun ⟨k,mb,a,b,c⟩=>⟨k,mb,a,b,c.1,c.2 k b⟩) id,fun l l' k _ _=>injB_inj rs hi l l' k,fun l hl' hlv=>by
  have:=(lowB_low n0 0 rs m' hl).2 l hl' hlv
  simpa using this,(lowB_low n0 0 rs m' hl).1⟩
end
abbrev cInt (x:Int):List PV:=[vi x]
abbrev cStr (x:ByteArray):List PV:=[vs x]
abbrev cBool (x:Bool):List PV:=[vb x]
def totS {α:Type} (f:α→Nat) (xs:List α):Nat:=xs.length+(xs.map f).sum
def okInt (n:Int):Prop:=(Lit.int .i64 n).wf=true
def okStr (s:ByteArray):Prop:=s.size≤maxLen
def okS {α:Type} (f:α→Prop) (xs:List α):Prop:=xs.length≤maxLen∧∀ y∈xs,f y
theorem szTo_spec (l:Int) (n:Nat):(l<n∧szTo l n=-1)∨(n≤l∧szTo l n=l-n):=by unfold szTo; split <;> omega
@[ext] structure YLabel where
 service:Int
 serial:Int
 to_:ByteArray
 deriving DecidableEq
abbrev cLabel (x:YLabel):List PV:=[vi x.service,vi x.serial,vs x.to_]
@[ext] structure YParcel where
 label:YLabel
 from_:ByteArray
 weight:Int
 sides:List Int
 value:Int
 deriving DecidableEq
abbrev cParcel (x:YParcel):List PV:=[vi x.label.service,vi x.label.serial,vs x.label.to_,vs x.from_,vi x.weight,.sl (x.sides.map cInt),vi x.value]
@[ext] structure YZone where
 first:ByteArray
 last:ByteArray
 deriving DecidableEq
abbrev cZone (x:YZone):List PV:=[vs x.first,vs x.last]
@[ext] structure YRate where
 zone:Int
 service:Int
 limit:Int
 price:Int
 deriving DecidableEq
abbrev cRate (x:YRate):List PV:=[vi x.zone,vi x.service,vi x.limit,vi x.price]
@[ext] structure YLeg where
 from_:ByteArray
 to_:ByteArray
 start:Int
 takes:Int
 days:Int
 room:Int
 deriving DecidableEq
abbrev cLeg (x:YLeg):List PV:=[vs x.from_,vs x.to_,vi x.start,vi x.takes,vi x.days,vi x.room]
def okLeg (x:YLeg):Prop:=okStr x.from_∧okStr x.to_∧okInt x.start∧okInt x.takes∧okInt x.days∧okInt x.room
def totLeg (x:YLeg):Nat:=x.from_.size+x.to_.size
@[ext] structure YNetwork where
 legs:List YLeg
 off:List Int
 change:Int
 deriving DecidableEq
abbrev cNetwork (x:YNetwork):List PV:=[.sl (x.legs.map cLeg),.sl (x.off.map cInt),vi x.change]
def okNetwork (x:YNetwork):Prop:=okS okLeg x.legs∧okS okInt x.off∧okInt x.change
def totNetwork (x:YNetwork):Nat:=totS totLeg x.legs+x.off.length
@[ext] structure YTrip where
 leg:Int
 day:Int
 deriving DecidableEq
abbrev cTrip (x:YTrip):List PV:=[vi x.leg,vi x.day]
def okTrip (x:YTrip):Prop:=okInt x.leg∧okInt x.day
@[ext] structure YBooking where
 thing:Int
 trip:YTrip
 weight:Int
 deriving DecidableEq
abbrev cBooking (x:YBooking):List PV:=[vi x.thing,vi x.trip.leg,vi x.trip.day,vi x.weight]
def okBooking (x:YBooking):Prop:=okInt x.thing∧okTrip x.trip∧okInt x.weight
@[ext] structure YScan where
 thing:Int
 at_:Int
 kind:Int
 place:ByteArray
 trip:YTrip
 deriving DecidableEq
abbrev cScan (x:YScan):List PV:=[vi x.thing,vi x.at_,vi x.kind,vs x.place,vi x.trip.leg,vi x.trip.day]
def okScan (x:YScan):Prop:=okInt x.thing∧okInt x.at_∧okInt x.kind∧okStr x.place∧okTrip x.trip
def totScan (x:YScan):Nat:=x.place.size
@[ext] structure YOrder where
 from_:ByteArray
 to_:ByteArray
 service:Int
 weight:Int
 at_:Int
 due:Int
 way:List YTrip
 gone:Int
 state:Int
 place:ByteArray
 ended:Int
 deriving DecidableEq
abbrev cOrder (x:YOrder):List PV:=[vs x.from_,vs x.to_,vi x.service,vi x.weight,vi x.at_,vi x.due,.sl (x.way.map cTrip),vi x.gone,vi x.state,vs x.place,vi x.ended]
def okOrder (x:YOrder):Prop:=okStr x.from_∧okStr x.to_∧okInt x.service∧okInt x.weight∧okInt x.at_∧okInt x.due∧okS okTrip x.way∧okInt x.gone∧okInt x.state∧okStr x.place∧okInt x.ended
def totOrder (x:YOrder):Nat:=x.from_.size+x.to_.size+x.way.length+x.place.size
@[ext] structure YWorld where
 network:YNetwork
 orders:List YOrder
 bookings:List YBooking
 closed:List YTrip
 now:Int
 scans:List YScan
 skip:List Int
 made:Int
 deriving DecidableEq
abbrev cWorld (x:YWorld):List PV:=[.sl (x.network.legs.map cLeg),.sl (x.network.off.map cInt),vi x.network.change,.sl (x.orders.map cOrder),.sl (x.bookings.map cBooking),.sl (x.closed.map cTrip),vi x.now,.sl (x.scans.map cScan),.sl (x.skip.map cInt),vi x.made]
def okWorld (x:YWorld):Prop:=okNetwork x.network∧okS okOrder x.orders∧okS okBooking x.bookings∧okS okTrip x.closed∧okInt x.now∧okS okScan x.scans∧okS okInt x.skip∧okInt x.made
def totWorld (x:YWorld):Nat:=totNetwork x.network+totS totOrder x.orders+x.bookings.length+x.closed.length+totS totScan x.scans+x.skip.length
@[ext] structure YLine where
 order:Int
 kind:Int
 amount:Int
 at_:Int
 deriving DecidableEq
abbrev cLine (x:YLine):List PV:=[vi x.order,vi x.kind,vi x.amount,vi x.at_]
@[ext] structure YAct where
 kind:Int
 parcel:YParcel
 order:Int
 amount:Int
 until_:Int
 trip:YTrip
 deriving DecidableEq
abbrev cAct (x:YAct):List PV:=[vi x.kind,vi x.parcel.label.service,vi x.parcel.label.serial,vs x.parcel.label.to_,vs x.parcel.from_,vi x.parcel.weight,.sl (x.parcel.sides.map cInt),vi x.parcel.value,vi x.order,vi x.amount,vi x.until_,vi x.trip.leg,vi x.trip.day]
@[ext] structure YOffice where
 world:YWorld
 zones:List YZone
 rates:List YRate
 percents:List Int
 parcels:List YParcel
 lines:List YLine
 journal:List YAct
 deriving DecidableEq
abbrev cOffice (x:YOffice):List PV:=[.sl (x.world.network.legs.map cLeg),.sl (x.world.network.off.map cInt),vi x.world.network.change,.sl (x.world.orders.map cOrder),.sl (x.world.bookings.map cBooking),.sl (x.world.closed.map cTrip),vi x.world.now,.sl (x.world.scans.map cScan),.sl (x.world.skip.map cInt),vi x.world.made,.sl (x.zones.map cZone),.sl (x.rates.map cRate),.sl (x.percents.map cInt),.sl (x.parcels.map cParcel),.sl (x.lines.map cLine),.sl (x.journal.map cAct)]
@[ext] structure YItem where
 id:Int
 dest:Int
 deriving DecidableEq
abbrev cItem (x:YItem):List PV:=[vi x.id,vi x.dest]
@[ext] structure YChute where
 cell:Int
 room:Int
 held:List YItem
 deriving DecidableEq
abbrev cChute (x:YChute):List PV:=[vi x.cell,vi x.room,.sl (x.held.map cItem)]
@[ext] structure YInlet where
 cell:Int
 wait:List YItem
 deriving DecidableEq
abbrev cInlet (x:YInlet):List PV:=[vi x.cell,.sl (x.wait.map cItem)]
@[ext] structure YCentre where
 belt:List YItem
 chutes:List YChute
 inlets:List YInlet
 plan:List Int
 now:Int
 deriving DecidableEq
abbrev cCentre (x:YCentre):List PV:=[.sl (x.belt.map cItem),.sl (x.chutes.map cChute),.sl (x.inlets.map cInlet),.sl (x.plan.map cInt),vi x.now]
@[ext] structure YThing where
 id:Int
 own:Int
 room:Int
 in_:Int
 box:Bool
 sealed:Bool
 deriving DecidableEq
abbrev cThing (x:YThing):List PV:=[vi x.id,vi x.own,vi x.room,vi x.in_,vb x.box,vb x.sealed]
@[ext] structure YBelief where
 places:List ByteArray
 rides:List YTrip
 deriving DecidableEq
abbrev cBelief (x:YBelief):List PV:=[.sl (x.places.map cStr),.sl (x.rides.map cTrip)]
end Go.Proofs.YtmcdjilbkmhfoaaGreat
namespace Go.Proofs.YtmcdjilbkmhfoaaGreat
set_option maxRecDepth 10000
open Go.ChangeShapes Go.WideShapes Go.ChangeAt Go.RowKit Go.Deep
section
variable {H:Type} {enc:TypeId × Value→H} {P:Program} {w:World} {base:Nat} {spare:Nat→Bool} {held:Bool}
theorem field_of {t:TypeId} {fs:Array Field} {fuel:Nat} {cs:List Value} {x:DataW H × List MemPlace} (ht:P.underlying t=some (.struct fs))
 (h:DataW.trod enc P w base spare held fuel t cs=some x) (j:Nat) (f:Field) (hf:fs[j]?=some f):
 ∃ y n,DataW.trod enc P w base spare held n f.type ((cs.drop f.offset).take (P.cellsOf f.type))=some y:=by
 obtain ⟨xs,n,_,_,_,hlen,hg⟩:=DataW.trod_struct ht h
 have hj:j<xs.length:=by rw [hlen]; exact (Array.getElem?_eq_some_iff.1 hf).1
 exact ⟨xs[j],n,(hg j f hf).trans (List.getElem?_eq_getElem hj)⟩
theorem len_of {t:TypeId} {fs:Array Field} {fuel:Nat} {cs:List Value} {x:DataW H × List MemPlace} (ht:P.underlying t=some (.struct fs))
 (h:DataW.trod enc P w base spare held fuel t cs=some x):cs.length=P.cellsOf t:=by
 obtain ⟨xs,n,_,_,hl,_,_⟩:=DataW.trod_struct ht h
 exact hl
theorem add_add' (a:Addr) (i j:Nat):(a.add i).add j=a.add (i+j):=by
 unfold Addr.add
 by_cases hi:i=0 <;> by_cases hj:j=0 <;> simp [hi,hj,Nat.add_assoc]
end
def Reads (w:World) (ps:List PV) (cs:List Value):Prop:=
 ps.length=cs.length∧∀ (j:Nat) (p:PV) (x:Value),ps[j]?=some p→cs[j]?=some x→x.oneCell'=true∧RepC w (fun b=>b<w.heap.size) p x
def DecP (P:Program) (t:TypeId) {α:Type} (f:α→List PV) (ok:α→Prop):Prop:=
 ∀ {H:Type} {enc:TypeId × Value→H} {w:World} {base:Nat} {spare:Nat→Bool} {held:Bool} {fuel:Nat} {cs:List Value} {x:DataW H × List MemPlace},
  DataW.trod enc P w base spare held fuel t cs=some x→∃ a:α,Reads w (f a) cs∧ok a
section
variable {w:World}
theorem reads_app {p q:List PV} {cs:List Value} {o k k':Nat} (hk:k'=k) (h:Reads w p ((cs.drop o).take k')) (h':Reads w q (cs.drop (o+k))) (hl:o+k≤cs.length):Reads w (p++q) (cs.drop o):=by
 subst hk
 have hp:p.length=k':=by have:=h.1; simp at this; omega
 refine ⟨by have:=h'.1; simp at this ⊢; omega,fun j c x hj hx=>?_⟩
 by_cases hjk:j<k'
 ·rw [List.getElem?_append_left (by omega)] at hj
  exact h.2 j c x hj (by rw [List.getElem?_take_of_lt hjk]; exact hx)
 ·rw [List.getElem?_append_right (by omega)] at hj
  refine h'.2 (j-k') c x (by rw [← hp]; exact hj) ?_
  rw [List.getElem?_drop] at hx ⊢
  rw [← hx]; congr 1; omega
theorem reads_nil {cs:List Value} {o:Nat} (h:cs.length≤o):Reads w [] (cs.drop o):=by
 refine ⟨by simp; omega,by simp⟩
theorem reads_one {p:PV} {x:Value} (h1:x.oneCell'=true) (h:RepC w (fun b=>b<w.heap.size) p x):Reads w [p] [x]:=by
 refine ⟨rfl,fun j c y hj hy=>?_⟩
 cases j with
 | zero=>simp at hj hy; subst hj hy; exact ⟨h1,h⟩
 | succ j=>simp at hj
end
section
variable {P:Program}
theorem decP_int {t:TypeId} (ht:P.underlying t=some (.int .i64)):DecP P t (fun n:Int=>[vi n]) (fun n=>(Lit.int .i64 n).wf=true):=by
 intro H enc w base spare held fuel cs x h
 obtain ⟨n,rfl,_,hw⟩:=DataW.trod_int ht h
 exact ⟨n,reads_one rfl (.v _ rfl),hw⟩
theorem decP_str {t:TypeId} (ht:P.underlying t=some .string):DecP P t (fun s:ByteArray=>[vs s]) (fun s=>s.size≤maxLen):=by
 intro H enc w base spare held fuel cs x h
 obtain ⟨s,rfl,_,hw⟩:=DataW.trod_string ht h
 exact ⟨s,reads_one rfl (.v _ rfl),hw⟩
theorem decP_slice {α:Type} {f:α→List PV} {ok:α→Prop} {t e:TypeId} (ht:P.underlying t=some (.slice e)) (hk:0<P.cellsOf e) (hdec:DecP P e f ok):
 DecP P t (fun xs:List α=>[.sl (xs.map f)]) (fun xs=>xs.length≤maxLen∧∀ y∈xs,ok y):=by
 intro H enc w base spare held fuel cs x h
 rcases open_slice ht h with ⟨rfl,_⟩ | ⟨a,n,c,m,k,D,Pl,rfl,_,hl,hm,hmm,_,hi⟩
 ·exact ⟨[],reads_one rfl (.nil _ _),by unfold maxLen; simp,by simp⟩
 have hnm:n≤m:=by rw [hmm]; split <;> omega
 have hex:∀ i:_root_.Fin n,∃ (a':α) (cs':List Value),ok a'∧Reads w (f a') cs'∧w.cells? base (a.add (i*P.cellsOf e)) (P.cellsOf e)=some cs':=by
  intro i
  obtain ⟨cs',hc,htr⟩:=hi i (by omega)
  obtain ⟨a',hr,hok⟩:=hdec htr
  exact ⟨a',cs',hok,hr,hc⟩
 obtain ⟨g,hg⟩:=Classical.axiomOfChoice hex
 obtain ⟨cc,hcc⟩:=Classical.axiomOfChoice hg
 refine ⟨List.ofFn g,?_,by simp; omega,fun y hy=>by obtain ⟨i,rfl⟩:=List.mem_ofFn.1 hy; exact (hcc i).1⟩
 rcases Nat.eq_zero_or_pos n with h0 | hpos
 ·subst h0
  rw [List.ofFn_zero]
  exact reads_one rfl (.nil _ _)
 have hat:∀ (i:_root_.Fin n) (j:Nat),j<P.cellsOf e→w.cell? (a.add (i*P.cellsOf e+j))=(cc i)[j]?:=by
  intro i j hj
  obtain ⟨_,_,h3⟩:=World.cells?_some (hcc i).2.2
  have:=h3 j hj
  rwa [add_add'] at this
 have hlen:∀ i:_root_.Fin n,(cc i).length=P.cellsOf e:=fun i=>(World.cells?_some (hcc i).2.2).2.1
 have hc0:w.cell? (a.add (0*P.cellsOf e+0))=some ((cc ⟨0,hpos⟩)[0]'(by rw [hlen]; exact hk)):=by
  rw [hat ⟨0,hpos⟩ 0 hk]; exact List.getElem?_eq_getElem _
 have hs:=World.cell?_spot hc0
 have hb:=World.block_lt_of_cell? _ _ hc0
 obtain ⟨b,off,spot⟩:=a
 have hadd:∀ q,(⟨b,off,none⟩:Addr).add q=⟨b,off+q,none⟩:=fun q=>by unfold Addr.add; split <;> simp_all
 have hspot:spot=none:=by simpa [Addr.add] using hs
 subst hspot
 rw [hadd] at hb
 have hsl:∀ (i:Nat) (ps:List PV),((List.ofFn g).map f)[i]?=some ps→∃ hi:i<n,ps=f (g ⟨i,hi⟩):=by
  intro i ps hps
  rw [List.getElem?_map] at hps
  obtain ⟨y,hy,rfl⟩:=Option.map_eq_some_iff.1 hps
  have hi:i<n:=by simpa using (List.getElem?_eq_some_iff.1 hy).1
  refine ⟨hi,?_⟩
  simp [hi] at hy
  rw [hy]
 have hu:∀ (i:Nat) (ps:List PV) (j:Nat) (p:PV),((List.ofFn g).map f)[i]?=some ps→ps[j]?=some p→
  ∃ x,w.cell? ⟨b,off+i*P.cellsOf e+j,none⟩=some x∧x.oneCell'=true∧RepC w (fun b=>b<w.heap.size) p x:=by
  intro i ps j p hps hp
  obtain ⟨hi,rfl⟩:=hsl i ps hps
  have hr:=(hcc ⟨i,hi⟩).2.1
  have hj:j<P.cellsOf e:=by rw [← hlen ⟨i,hi⟩,← hr.1]; exact (List.getElem?_eq_some_iff.1 hp).1
  have hx:=hat ⟨i,hi⟩ j hj
  rw [hadd,← Nat.add_assoc] at hx
  have hj':j<(cc ⟨i,hi⟩).length:=by rw [hlen]; exact hj
  rw [List.getElem?_eq_getElem hj'] at hx
  exact ⟨_,hx,hr.2 j p _ hp (List.getElem?_eq_getElem hj')⟩
 have h:=RepC.sl (w:=w) (S:=fun b=>b<w.heap.size) ((List.ofFn g).map f) b off (P.cellsOf e) c (fun i j=>(w.cell? ⟨b,off+i*P.cellsOf e+j,none⟩).getD .nilIface) hb hk (by simpa using hl) hm
  (fun i ps hps=>by obtain ⟨hi,rfl⟩:=hsl i ps hps; rw [(hcc ⟨i,hi⟩).2.1.1,hlen])
  (fun i ps j p hps hp=>by obtain ⟨x,hx,_⟩:=hu i ps j p hps hp; rw [hx]; rfl)
  (fun i ps j p hps hp=>by obtain ⟨x,hx,h1,_⟩:=hu i ps j p hps hp; rw [hx]; exact h1)
  (fun i ps j p hps hp=>by obtain ⟨x,hx,_,h2⟩:=hu i ps j p hps hp; rw [hx]; exact h2)
 simp only [List.length_map,List.length_ofFn] at h
 exact reads_one rfl h
theorem CallOk.run {f:FuncId} {args:List PV} {b:Bool} (h:CallOk P f args (vb b) []) {w:World} (ht:Tab w (own0 fun _=>none)) {vs:Array Value} (hl:vs.size=args.length) (ha:∀ (i:Nat) (p:PV),args[i]?=some p→∃ x,vs[i]?=some x∧Rep w (E1 (fun b=>b<w.heap.size) (fun _=>none) 0) p x):
 Calls P f vs w fun e w'=>e=.returned (.bool b)∧Up w w':=by
 have hno:∀ {b':Nat},own0 (fun _=>none) b'→False:=by rintro b' ⟨l,B,h,_⟩; cases h
 have hok:Ok w (own0 fun _=>none) (E1 (fun b=>b<w.heap.size) (fun _=>none) 0) w []:=
  ⟨UpO.refl _ _,fun b h=>h,fun l B h=>(by cases h),fun l l' B B' h=>(by cases h),fun l h=>absurd h (Nat.not_lt_zero l),fun l B h=>(by cases h),fun l mb h=>(by simp at h),fun l B h=>(by cases h),ht,fun _ _ h=>h.elim⟩
 refine (h (fun b=>b<w.heap.size) (fun _=>none) w vs (fun _ _=>False) hok hl ha).mono ?_
 rintro e w' ⟨v,E',rfl,hk,_,_,_,hr⟩
 cases hr with
 | c hr=>cases hr; exact ⟨rfl,⟨hk.up.os,hk.up.tape,hk.up.output,hk.up.size,fun b hb=>hk.up.block b hb fun h=>hno h⟩⟩
end
theorem cells_Int:Tryz.prog.cellsOf 3=1:=by kernel_rfl
theorem dec_Int:DecP Tryz.prog 3 cInt okInt:=decP_int Tryz.underlying3
theorem cells_Str:Tryz.prog.cellsOf 9=1:=by kernel_rfl
theorem dec_Str:DecP Tryz.prog 9 cStr okStr:=decP_str Tryz.underlying9
theorem cells_IntS:Tryz.prog.cellsOf 23=1:=by kernel_rfl
theorem dec_IntS:DecP Tryz.prog 23 (fun xs:List Int=>[.sl (xs.map cInt)]) (okS okInt):=decP_slice Tryz.underlying23 (by rw [cells_Int]; decide) dec_Int
theorem cells_Leg:Tryz.prog.cellsOf 225=6:=by kernel_rfl
theorem dec_Leg:DecP Tryz.prog 225 cLeg okLeg:=by
 intro H enc w base spare held fuel cs x h
 have hl:=(len_of Tryz.underlying225 h).trans cells_Leg
 obtain ⟨y0,n0,h0⟩:=field_of Tryz.underlying225 h 0 _ rfl
 obtain ⟨a0,r0,w0⟩:=dec_Str h0
 obtain ⟨y1,n1,h1⟩:=field_of Tryz.underlying225 h 1 _ rfl
 obtain ⟨a1,r1,w1⟩:=dec_Str h1
 obtain ⟨y2,n2,h2⟩:=field_of Tryz.underlying225 h 2 _ rfl
 obtain ⟨a2,r2,w2⟩:=dec_Int h2
 obtain ⟨y3,n3,h3⟩:=field_of Tryz.underlying225 h 3 _ rfl
 obtain ⟨a3,r3,w3⟩:=dec_Int h3
 obtain ⟨y4,n4,h4⟩:=field_of Tryz.underlying225 h 4 _ rfl
 obtain ⟨a4,r4,w4⟩:=dec_Int h4
 obtain ⟨y5,n5,h5⟩:=field_of Tryz.underlying225 h 5 _ rfl
 obtain ⟨a5,r5,w5⟩:=dec_Int h5
 have hr:=(reads_app (o:=0) cells_Str r0 (reads_app (o:=1) cells_Str r1 (reads_app (o:=2) cells_Int r2 (reads_app (o:=3) cells_Int r3 (reads_app (o:=4) cells_Int r4 (reads_app (o:=5) cells_Int r5 (reads_nil (by omega)) (by omega)) (by omega)) (by omega)) (by omega)) (by omega)) (by omega))
 exact ⟨⟨a0,a1,a2,a3,a4,a5⟩,hr,w0,w1,w2,w3,w4,w5⟩
theorem cells_LegS:Tryz.prog.cellsOf 22=1:=by kernel_rfl
theorem dec_LegS:DecP Tryz.prog 22 (fun xs:List YLeg=>[.sl (xs.map cLeg)]) (okS okLeg):=decP_slice Tryz.underlying22 (by rw [cells_Leg]; decide) dec_Leg
theorem cells_Network:Tryz.prog.cellsOf 25=3:=by kernel_rfl
theorem dec_Network:DecP Tryz.prog 25 cNetwork okNetwork:=by
 intro H enc w base spare held fuel cs x h
 have hl:=(len_of Tryz.underlying25 h).trans cells_Network
 obtain ⟨y0,n0,h0⟩:=field_of Tryz.underlying25 h 0 _ rfl
 obtain ⟨a0,r0,w0⟩:=dec_LegS h0
 obtain ⟨y1,n1,h1⟩:=field_of Tryz.underlying25 h 1 _ rfl
 obtain ⟨a1,r1,w1⟩:=dec_IntS h1
 obtain ⟨y2,n2,h2⟩:=field_of Tryz.underlying25 h 2 _ rfl
 obtain ⟨a2,r2,w2⟩:=dec_Int h2
 have hr:=(reads_app (o:=0) cells_LegS r0 (reads_app (o:=1) cells_IntS r1 (reads_app (o:=2) cells_Int r2 (reads_nil (by omega)) (by omega)) (by omega)) (by omega))
 exact ⟨⟨a0,a1,a2⟩,hr,w0,w1,w2⟩
theorem cells_Trip:Tryz.prog.cellsOf 71=2:=by kernel_rfl
theorem dec_Trip:DecP Tryz.prog 71 cTrip okTrip:=by
 intro H enc w base spare held fuel cs x h
 have hl:=(len_of Tryz.underlying71 h).trans cells_Trip
 obtain ⟨y0,n0,h0⟩:=field_of Tryz.underlying71 h 0 _ rfl
 obtain ⟨a0,r0,w0⟩:=dec_Int h0
 obtain ⟨y1,n1,h1⟩:=field_of Tryz.underlying71 h 1 _ rfl
 obtain ⟨a1,r1,w1⟩:=dec_Int h1
 have hr:=(reads_app (o:=0) cells_Int r0 (reads_app (o:=1) cells_Int r1 (reads_nil (by omega)) (by omega)) (by omega))
 exact ⟨⟨a0,a1⟩,hr,w0,w1⟩
theorem cells_Booking:Tryz.prog.cellsOf 178=4:=by kernel_rfl
theorem dec_Booking:DecP Tryz.prog 178 cBooking okBooking:=by
 intro H enc w base spare held fuel cs x h
 have hl:=(len_of Tryz.underlying178 h).trans cells_Booking
 obtain ⟨y0,n0,h0⟩:=field_of Tryz.underlying178 h 0 _ rfl
 obtain ⟨a0,r0,w0⟩:=dec_Int h0
 obtain ⟨y1,n1,h1⟩:=field_of Tryz.underlying178 h 1 _ rfl
 obtain ⟨a1,r1,w1⟩:=dec_Trip h1
 obtain ⟨y2,n2,h2⟩:=field_of Tryz.underlying178 h 2 _ rfl
 obtain ⟨a2,r2,w2⟩:=dec_Int h2
 have hr:=(reads_app (o:=0) cells_Int r0 (reads_app (o:=1) cells_Trip r1 (reads_app (o:=3) cells_Int r2 (reads_nil (by omega)) (by omega)) (by omega)) (by omega))
 exact ⟨⟨a0,a1,a2⟩,hr,w0,w1,w2⟩
theorem cells_Scan:Tryz.prog.cellsOf 172=6:=by kernel_rfl
theorem dec_Scan:DecP Tryz.prog 172 cScan okScan:=by
 intro H enc w base spare held fuel cs x h
 have hl:=(len_of Tryz.underlying172 h).trans cells_Scan
 obtain ⟨y0,n0,h0⟩:=field_of Tryz.underlying172 h 0 _ rfl
 obtain ⟨a0,r0,w0⟩:=dec_Int h0
 obtain ⟨y1,n1,h1⟩:=field_of Tryz.underlying172 h 1 _ rfl
 obtain ⟨a1,r1,w1⟩:=dec_Int h1
 obtain ⟨y2,n2,h2⟩:=field_of Tryz.underlying172 h 2 _ rfl
 obtain ⟨a2,r2,w2⟩:=dec_Int h2
 obtain ⟨y3,n3,h3⟩:=field_of Tryz.underlying172 h 3 _ rfl
 obtain ⟨a3,r3,w3⟩:=dec_Str h3
 obtain ⟨y4,n4,h4⟩:=field_of Tryz.underlying172 h 4 _ rfl
 obtain ⟨a4,r4,w4⟩:=dec_Trip h4
 have hr:=(reads_app (o:=0) cells_Int r0 (reads_app (o:=1) cells_Int r1 (reads_app (o:=2) cells_Int r2 (reads_app (o:=3) cells_Str r3 (reads_app (o:=4) cells_Trip r4 (reads_nil (by omega)) (by omega)) (by omega)) (by omega)) (by omega)) (by omega))
 exact ⟨⟨a0,a1,a2,a3,a4⟩,hr,w0,w1,w2,w3,w4⟩
theorem cells_TripS:Tryz.prog.cellsOf 28=1:=by kernel_rfl
theorem dec_TripS:DecP Tryz.prog 28 (fun xs:List YTrip=>[.sl (xs.map cTrip)]) (okS okTrip):=decP_slice Tryz.underlying28 (by rw [cells_Trip]; decide) dec_Trip
theorem cells_Order:Tryz.prog.cellsOf 169=11:=by kernel_rfl
theorem dec_Order:DecP Tryz.prog 169 cOrder okOrder:=by
 intro H enc w base spare held fuel cs x h
 have hl:=(len_of Tryz.underlying169 h).trans cells_Order
 obtain ⟨y0,n0,h0⟩:=field_of Tryz.underlying169 h 0 _ rfl
 obtain ⟨a0,r0,w0⟩:=dec_Str h0
 obtain ⟨y1,n1,h1⟩:=field_of Tryz.underlying169 h 1 _ rfl
 obtain ⟨a1,r1,w1⟩:=dec_Str h1
 obtain ⟨y2,n2,h2⟩:=field_of Tryz.underlying169 h 2 _ rfl
 obtain ⟨a2,r2,w2⟩:=dec_Int h2
 obtain ⟨y3,n3,h3⟩:=field_of Tryz.underlying169 h 3 _ rfl
 obtain ⟨a3,r3,w3⟩:=dec_Int h3
 obtain ⟨y4,n4,h4⟩:=field_of Tryz.underlying169 h 4 _ rfl
 obtain ⟨a4,r4,w4⟩:=dec_Int h4
 obtain ⟨y5,n5,h5⟩:=field_of Tryz.underlying169 h 5 _ rfl
 obtain ⟨a5,r5,w5⟩:=dec_Int h5
 obtain ⟨y6,n6,h6⟩:=field_of Tryz.underlying169 h 6 _ rfl
 obtain ⟨a6,r6,w6⟩:=dec_TripS h6
 obtain ⟨y7,n7,h7⟩:=field_of Tryz.underlying169 h 7 _ rfl
 obtain ⟨a7,r7,w7⟩:=dec_Int h7
 obtain ⟨y8,n8,h8⟩:=field_of Tryz.underlying169 h 8 _ rfl
 obtain ⟨a8,r8,w8⟩:=dec_Int h8
 obtain ⟨y9,n9,h9⟩:=field_of Tryz.underlying169 h 9 _ rfl
 obtain ⟨a9,r9,w9⟩:=dec_Str h9
 obtain ⟨y10,n10,h10⟩:=field_of Tryz.underlying169 h 10 _ rfl
 obtain ⟨a10,r10,w10⟩:=dec_Int h10
 have hr:=(reads_app (o:=0) cells_Str r0 (reads_app (o:=1) cells_Str r1 (reads_app (o:=2) cells_Int r2 (reads_app (o:=3) cells_Int r3 (reads_app (o:=4) cells_Int r4 (reads_app (o:=5) cells_Int r5 (reads_app (o:=6) cells_TripS r6 (reads_app (o:=7) cells_Int r7 (reads_app (o:=8) cells_Int r8 (reads_app (o:=9) cells_Str r9 (reads_app (o:=10) cells_Int r10 (reads_nil (by omega)) (by omega)) (by omega)) (by omega)) (by omega)) (by omega)) (by omega)) (by omega)) (by omega)) (by omega)) (by omega)) (by omega))
 exact ⟨⟨a0,a1,a2,a3,a4,a5,a6,a7,a8,a9,a10⟩,hr,w0,w1,w2,w3,w4,w5,w6,w7,w8,w9,w10⟩
theorem cells_OrderS:Tryz.prog.cellsOf 26=1:=by kernel_rfl
theorem dec_OrderS:DecP Tryz.prog 26 (fun xs:List YOrder=>[.sl (xs.map cOrder)]) (okS okOrder):=decP_slice Tryz.underlying26 (by rw [cells_Order]; decide) dec_Order
theorem cells_BookingS:Tryz.prog.cellsOf 27=1:=by kernel_rfl
theorem dec_BookingS:DecP Tryz.prog 27 (fun xs:List YBooking=>[.sl (xs.map cBooking)]) (okS okBooking):=decP_slice Tryz.underlying27 (by rw [cells_Booking]; decide) dec_Booking
theorem cells_ScanS:Tryz.prog.cellsOf 29=1:=by kernel_rfl
theorem dec_ScanS:DecP Tryz.prog 29 (fun xs:List YScan=>[.sl (xs.map cScan)]) (okS okScan):=decP_slice Tryz.underlying29 (by rw [cells_Scan]; decide) dec_Scan
theorem cells_World:Tryz.prog.cellsOf 31=10:=by kernel_rfl
theorem dec_World:DecP Tryz.prog 31 cWorld okWorld:=by
 intro H enc w base spare held fuel cs x h
 have hl:=(len_of Tryz.underlying31 h).trans cells_World
 obtain ⟨y0,n0,h0⟩:=field_of Tryz.underlying31 h 0 _ rfl
 obtain ⟨a0,r0,w0⟩:=dec_Network h0
 obtain ⟨y1,n1,h1⟩:=field_of Tryz.underlying31 h 1 _ rfl
 obtain ⟨a1,r1,w1⟩:=dec_OrderS h1
 obtain ⟨y2,n2,h2⟩:=field_of Tryz.underlying31 h 2 _ rfl
 obtain ⟨a2,r2,w2⟩:=dec_BookingS h2
 obtain ⟨y3,n3,h3⟩:=field_of Tryz.underlying31 h 3 _ rfl
 obtain ⟨a3,r3,w3⟩:=dec_TripS h3
 obtain ⟨y4,n4,h4⟩:=field_of Tryz.underlying31 h 4 _ rfl
 obtain ⟨a4,r4,w4⟩:=dec_Int h4
 obtain ⟨y5,n5,h5⟩:=field_of Tryz.underlying31 h 5 _ rfl
 obtain ⟨a5,r5,w5⟩:=dec_ScanS h5
 obtain ⟨y6,n6,h6⟩:=field_of Tryz.underlying31 h 6 _ rfl
 obtain ⟨a6,r6,w6⟩:=dec_IntS h6
 obtain ⟨y7,n7,h7⟩:=field_of Tryz.underlying31 h 7 _ rfl
 obtain ⟨a7,r7,w7⟩:=dec_Int h7
 have hr:=(reads_app (o:=0) cells_Network r0 (reads_app (o:=3) cells_OrderS r1 (reads_app (o:=4) cells_BookingS r2 (reads_app (o:=5) cells_TripS r3 (reads_app (o:=6) cells_Int r4 (reads_app (o:=7) cells_ScanS r5 (reads_app (o:=8) cells_IntS r6 (reads_app (o:=9) cells_Int r7 (reads_nil (by omega)) (by omega)) (by omega)) (by omega)) (by omega)) (by omega)) (by omega)) (by omega)) (by omega))
 exact ⟨⟨a0,a1,a2,a3,a4,a5,a6,a7⟩,hr,w0,w1,w2,w3,w4,w5,w6,w7⟩
end Go.Proofs.YtmcdjilbkmhfoaaGreat
namespace Go.Proofs.YtmcdjilbkmhfoaaGreat
set_option maxRecDepth 10000
open Go.ChangeShapes Go.WideShapes Go.ChangeAt Go.RowKit Go.Deep
set_option linter.unusedVariables false
namespace fnExactRetryOrders
theorem and_t {a b:Bool} (h:a=true) (k:b=true):(a && b)=true:=by rw [h,k]; rfl
theorem j01:(Rows.fnExactRetryOrdersRow.wf (OpenSpec.ofChange Rows.fnExactRetryOrdersSpec))=true:=by kernel_rfl
theorem j02:(laidOutB Tryz.prog)=true:=by kernel_rfl
theorem j03:(mapsRowed Tryz.prog)=true:=by kernel_rfl
theorem j04:(Tryz.f8.params.all (Tryz.prog.readableRec ·))=true:=by kernel_rfl
theorem j05:(namedTie Tryz.prog Rows.fnExactRetryOrdersRow.named Rows.fnExactRetryOrdersSpec.vars)=true:=by kernel_rfl
theorem j06:((Rows.fnExactRetryOrdersRow.stops == []))=true:=by kernel_rfl
theorem j07:((Tryz.prog.stops == []))=true:=by kernel_rfl
theorem j08:((Rows.fnExactRetryOrdersRow.knobs == []))=true:=by kernel_rfl
theorem j09:((Tryz.prog.stopKnobs == []))=true:=by kernel_rfl
theorem j10:((Rows.fnExactRetryOrdersRow.inPlace == Tryz.prog.inPlace 8))=true:=by kernel_rfl
theorem j11:((Rows.fnExactRetryOrdersRow.unfollowed == Tryz.prog.unfollowed 8))=true:=by kernel_rfl
theorem j12:((Rows.fnExactRetryOrdersRow.recurses == Tryz.prog.recurses 8))=true:=by kernel_rfl
theorem j13:((Rows.fnExactRetryOrdersRow.named == Tryz.prog.varsNamed 8))=true:=by kernel_rfl
theorem j14:((Rows.fnExactRetryOrdersRow.maps == (Tryz.f8.params.toList++Rows.fnExactRetryOrdersSpec.plain.varTypes Tryz.prog).any (Tryz.prog.mapsRec ·)))=true:=by kernel_rfl
theorem j15:((Rows.fnExactRetryOrdersRow.ifaces == (Tryz.f8.params.toList++Rows.fnExactRetryOrdersSpec.plain.varTypes Tryz.prog).any (Tryz.prog.ifacesRec ·)))=true:=by kernel_rfl
theorem j16:((Rows.fnExactRetryOrdersRow.mapsOut == Tryz.prog.mapsAmong Tryz.f8.resultTypes.toList))=true:=by kernel_rfl
theorem j17:((Rows.fnExactRetryOrdersRow.loops == (Tryz.f8.params.toList++Rows.fnExactRetryOrdersSpec.plain.varTypes Tryz.prog).any (Tryz.prog.loopsFrom ·)))=true:=by kernel_rfl
theorem j18:((Rows.fnExactRetryOrdersRow.wideKeys == (Tryz.f8.params.toList++Rows.fnExactRetryOrdersSpec.plain.varTypes Tryz.prog++Tryz.f8.resultTypes.toList).any (Tryz.prog.wideKeysFrom ·)))=true:=by kernel_rfl
theorem j19:(Rows.fnExactRetryOrdersSpec.vars.all (Tryz.prog.varReadable ·))=true:=by kernel_rfl
theorem j20:(Tryz.f8.resultTypes.all (fun t=>Tryz.prog.readableRec t && decide (t<Tryz.prog.types.size)))=true:=by kernel_rfl
theorem j21:((Rows.fnExactRetryOrdersRow.ifacesOut == Tryz.f8.resultTypes.toList.any (Tryz.prog.ifacesRec ·)))=true:=by kernel_rfl
theorem j22:((Rows.fnExactRetryOrdersRow.loopsOut == Tryz.f8.resultTypes.toList.any (Tryz.prog.loopsFrom ·)))=true:=by kernel_rfl
theorem j23:((Rows.fnExactRetryOrdersRow.plainKeys == Tryz.prog.plainKeys))=true:=by kernel_rfl
theorem j24:(Rows.fnExactRetryOrdersRow.shortTexts.isNone)=true:=by kernel_rfl
theorem j25:(Tryz.prog.stopsHeard)=true:=by kernel_rfl
theorem j26:(Tryz.prog.mayEnter)=true:=by kernel_rfl
theorem j27:((Rows.fnExactRetryOrdersRow.lifted == Tryz.prog.liftsFinal))=true:=by kernel_rfl
theorem j28:((Tryz.prog.make == some Rows.fnExactRetryOrdersRow.make))=true:=by kernel_rfl
theorem j29:((Rows.fnExactRetryOrdersRow.kinds == (if Rows.fnExactRetryOrdersRow.domain.isEmpty then [] else Tryz.f8.params.toList.map fun t=>match Tryz.prog.underlying t with | some (.int k)=>some k | _=>none)))=true:=by kernel_rfl
theorem j30:((Rows.fnExactRetryOrdersRow.pinned == Rows.fnExactRetryOrdersRow.pinnedBy))=true:=by kernel_rfl
theorem j31:((Rows.fnExactRetryOrdersRow.veiled == (Tryz.f8.params.toList++Rows.fnExactRetryOrdersSpec.plain.varTypes Tryz.prog++Tryz.f8.resultTypes.toList).any (Tryz.prog.veiledRec ·)))=true:=by kernel_rfl
theorem j32:(Rows.fnExactRetryOrdersRow.veiledFits Tryz.prog Tryz.f8.params.toList (Tryz.f8.params.toList++Rows.fnExactRetryOrdersSpec.plain.varTypes Tryz.prog++Tryz.f8.resultTypes.toList))=true:=by kernel_rfl
theorem joined:joinedFacts Tryz.prog 8 Tryz.f8 Rows.fnExactRetryOrdersSpec Rows.fnExactRetryOrdersRow=true:=by
 unfold joinedFacts
 exact (and_t (and_t (and_t (and_t (and_t (and_t (and_t (and_t (and_t (and_t (and_t (and_t (and_t (and_t (and_t (and_t (and_t (and_t (and_t (and_t (and_t (and_t (and_t (and_t (and_t (and_t (and_t (and_t (and_t (and_t (and_t j01 j02) j03) j04) j05) j06) j07) j08) j09) j10) j11) j12) j13) j14) j15) j16) j17) j18) j19) j20) j21) j22) j23) j24) j25) j26) j27) j28) j29) j30) j31) j32)
end fnExactRetryOrders
end Go.Proofs.YtmcdjilbkmhfoaaGreat
