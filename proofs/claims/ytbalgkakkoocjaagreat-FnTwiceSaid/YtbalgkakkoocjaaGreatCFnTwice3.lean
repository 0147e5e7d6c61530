/- A part of the proof of the statement in the last file of this claim: texts on the language of the program and on its functions. No condition. -/
import Derived.Test.YtbalgkakkoocjaaGreatCFnTwice2
import Derived.Test.YtbalgkakkoocjaaGreatCFnTwice1
import Derived.ProofKit
import Derived.Deep.Slices
import Derived.Deep.Fields
import Derived.ChangeOld
import Derived.ChangeSame
set_option linter.unusedVariables false
set_option linter.unusedSimpArgs false
set_option linter.unusedSectionVars false
open List renaming mem_cons_of_mem→Wi,mem_cons_self→Wp,range'→Yp,getElem?_eq_getElem→VT,getElem?_eq_some_iff→VU,mem_append_left→Xd,mem_append_right→XB,getD→W0,getElem?_eq_none→Wy,mem_flatMap→W9,map_congr_left→WZ,length_cons→VX,getElem?_append_left→Wd,getElem?_cons_zero→Xs,all_eq_true→V5,mem_range→WW,range→WO,mem_filter→Xj,length_eq_zero_iff→W4,mem_of_getElem?→VW,getElem?_drop→WE,replicate→WA,map_id→X2,mem_map→WS,length_map→Wg,ofFn→XP
open Bool renaming false_eq_true→WU,and_eq_true→VZ
open Nat renaming lt_trichotomy→Xg,le_trans→Wq,zero_add→Wb,add_assoc→Xu,zero_le→WV
open Option renaming map_some→Wr,getD_some→Ws,map_eq_some_iff→Ww
open _root_.Array renaming all_toList→Yh,getD→Xw,getD_eq_getD_getElem?→WQ,getElem?_setIfInBounds_ne→Yd,replicate→Xp,getElem?_replicate→Yy
open Option.some renaming injEq→V1,inj→VV
open Classical renaming axiomOfChoice→XA
namespace Go.Proofs.YtbalgkakkoocjaaGreat
set_option maxRecDepth 10000
open Go.RowKit
variable {T T':TypeId}{Ts:Array TypeId}{a:Option Addr}{c:Code}{cs ds ps zc:List PV}{fn:Func}{hi lo:Option PV}{id k k' l n:Nat}{m0 m1 mm:Mem}{mb nW:MB}{oo:Oper}{p r:PV}{rr rs:List (Option Nat)}{s:ByteArray}{tm:Array Value}{v:Value}{x y:Operand}
def vV(σ:Nat→Nat):List Nat→Mem→S8
 |l::ρ,x::m1=>(l,x.map (mU σ))::vV σ ρ m1
 |_,_=>[]
theorem Fm{σ:Nat→Nat}:∀(ρ:List Nat) (m1 m:Mem),(∀l∈ρ,l<m.length)→kC σ ρ m1 m=app (vV σ ρ m1) m
 | [],m1,m,_=>by cases m1<;>rfl
 |l::ρ,[],m,_=>rfl
 |l::ρ,x::m1,m,h=>by
  simp only[kC,vV]
  rw[Fm ρ m1 _ (fun k hk=>by rw[List.length_set];exact h k (Wi _ hk))]
  show app (vV σ ρ m1) _=app (vV σ ρ m1) (qL m (l,x.map (mU σ)))
  rw[show qL m (l,x.map (mU σ))=m.set l (x.map (mU σ))from uo (h l Wp) _]
theorem yE{σ:Nat→Nat}{m m2:Mem}{n:Nat}:∀{ρ:List Nat} {m0:Mem},(∀l∈ρ,look m2 l=look m l)→oZ σ m n ρ m0→oZ σ m2 n ρ m0
 | [],[],_,_=>trivial
 | [],_::_,_,h=>h.elim
 |_::_,[],_,h=>h.elim
 |l::ρ,none::m0,_,h=>h.elim
 |l::ρ,some Ku::m0,hl,h=>⟨ji.1 ((hl l Wp).trans (ji.2 h.1)),h.2.1,yE (fun k hk=>hl k (Wi _ hk)) h.2.2⟩
def pIO(P:Program)(wd ν:Nat)(f:FuncId)(ps:List PV)(m:Mem)(K:List Nat→PV→Mem→Prop):Prop:=
 ∃(ρ:List Nat) (m0:Mem) (qs:List PV) (r:PV) (m1:Mem),iZ P f qs m0 r m1∧m0.length≤m1.length∧m1.length-m0.length≤wd∧ps=qs.map (uF (sig ρ ν))∧(∀q∈qs,kb false q∧yR m0.length q=true)∧ρ.Nodup∧oZ (sig ρ ν) m m0.length ρ m0∧
  (∀mb,some mb∈m1→∀cs∈mb.es,∀p∈cs,cE false p)∧ln false r∧K ρ (Ad (sig ρ ν) r) (iX (sig ρ ν) ν (m1.drop ρ.length) (kC (sig ρ ν) ρ m1 m))
def LN(P:Program)(wd ν:Nat)(o:Op)(t:List PV)(m:Mem)(K:List Nat→PV→Mem→Prop):Prop:=match o with
 |.call ⟨.value (.func f),xs,_⟩=>xH P f∧pIO P wd ν f (xs.toList.map (fX t)) m K
 |_=>False
theorem FM{σ:Nat→Nat}:∀(ρ:List Nat) (m1:Mem) (q:Nat×Option MB),q∈vV σ ρ m1→q.1∈ρ
 | [],m1,q,h=>by cases m1<;>simp[vV]at h
 |l::ρ,[],q,h=>by simp[vV]at h
 |l::ρ,x::m1,q,h=>by
  simp only[vV,List.mem_cons]at h
  rcases h with rfl|h
  ·exact Wp
  ·exact Wi _ (FM ρ m1 q h)
theorem OZ{P:Program}{m:Mem}{f:FuncId}{wd ν:Nat}{K:List Nat→PV→Mem→Prop}(h:pIO P wd ν f ps m K):
 ∃(ρ:List Nat) (p:PV) (u:S8),K ρ p (app u m)∧(∀q∈u,q.1∈ρ++Yp ν wd)∧∀m2,(∀l∈ρ,look m2 l=look m l)→pT P true wd ν f ps m2 fun p' m'=>p'=p∧m'=app u m2:=by
 obtain⟨ρ,m0,qs,r,m1,hc,hle,Uh,CG,hqs,hn,uC,Kq,KZ,hK⟩:=h
 have bF:∀(m2:Mem),oZ (sig ρ ν) m2 m0.length ρ m0→∀l∈ρ,l<m2.length:=fun m2 hi l hl=>by
  obtain⟨i,hi1,rfl⟩:=List.getElem_of_mem hl
  obtain⟨Ku,_,h2,_⟩:=(sG hi).2 i ρ[i] (VT hi1)
  exact(VU.1 h2).1
 have e:∀(m2:Mem),oZ (sig ρ ν) m2 m0.length ρ m0→iX (sig ρ ν) ν (m1.drop ρ.length) (kC (sig ρ ν) ρ m1 m2)=app (vV (sig ρ ν) ρ m1++uN (sig ρ ν) ν (m1.drop ρ.length)) m2:=fun m2 hi=>by
  rw[pP,Fm ρ m1 m2 (bF m2 hi)]
  simp only[app,List.foldl_append]
 have hlen:=(sG uC).1
 refine⟨ρ,Ad (sig ρ ν) r,vV (sig ρ ν) ρ m1++uN (sig ρ ν) ν (m1.drop ρ.length),by rw[←e m uC];exact hK,fun q hq=>?_,fun m2 AB=>?_⟩
 ·rcases List.mem_append.1 hq with hq|hq
  ·exact Xd _ (FM _ _ _ hq)
  ·refine XB _ (mem_range'.2 ?_)
   have:=uO _ _ _ q hq
   simp only[List.length_drop]at this
   omega
 ·have Zc5:=yE AB uC
  exact .inr ⟨ρ,m0,qs,r,m1,.inl rfl,hc,hle,Uh,CG,hqs,hn,Zc5,Kq,KZ,rfl,e m2 Zc5⟩
def Lc:List Nat→Nat→Bool
 | [],_=>false
 |a::l,i=>if a=i then true else Lc l i
def UP(ops:Array Oper)(o:Oper)(ρ:List Nat)(wd ν:Nat):LE:=⟨ρ,ρ++Yp ν wd,AR ops o,o.dst⟩
def j2(P:Program)(wd base:Nat)(fl:List Nat)(ops:Array Oper)(K:List LE→List PV→Mem→Prop):Nat→List Oper→List LE→List PV→Mem→Prop
 |_,[],g,t,m=>K g t m
 |i,o::rest,g,t,m=>match o.guard with
  |none=>if Lc fl i=true then LN P wd (base+wd*i) o.op t m fun ρ p m'=>j2 P wd base fl ops K (i+1) rest (g++[UP ops o ρ wd (base+wd*i)]) (je t o.dst p) m'
   else iW P false wd (base+wd*i) o.op t m fun p m'=>j2 P wd base fl ops K (i+1) rest (g++[Ld ops o t wd (base+wd*i)]) (je t o.dst p) m'
  |some (j,b)=>match(ops[j]?).bind (·.dst)with
   |none=>j2 P wd base fl ops K (i+1) rest (g++[le0 ops o]) (je t o.dst .ud) m
   |some d=>match t.getD d .un,b with
    |.v (.bool c),true=>gate c (iW P false wd (base+wd*i) o.op (t.set d (.v (.bool true))) m fun p m'=>j2 P wd base fl ops K (i+1) rest (g++[Ld ops o (t.set d (.v (.bool true))) wd (base+wd*i)]) (je (t.set d (.v (.bool true))) o.dst p) m')
     (j2 P wd base fl ops K (i+1) rest (g++[le0 ops o]) (je (t.set d (.v (.bool false))) o.dst .ud) m)
    |.v (.bool c),false=>gate c (j2 P wd base fl ops K (i+1) rest (g++[le0 ops o]) (je (t.set d (.v (.bool true))) o.dst .ud) m)
     (iW P false wd (base+wd*i) o.op (t.set d (.v (.bool false))) m fun p m'=>j2 P wd base fl ops K (i+1) rest (g++[Ld ops o (t.set d (.v (.bool false))) wd (base+wd*i)]) (je (t.set d (.v (.bool false))) o.dst p) m')
    |.ud,_=>j2 P wd base fl ops K (i+1) rest (g++[le0 ops o]) (je t o.dst .ud) m
    |_,_=>False
def Want(ops:Array Oper)(o:Oper)(t:List PV):Prop:=o.guard=none∨∃j b d,o.guard=some (j,b)∧(ops[j]?).bind (·.dst)=some d∧t.getD d .un=.v (.bool b)
def Ky(ops:Array Oper)(o:Oper)(t:List PV):Prop:=∃j b,o.guard=some (j,b)∧((ops[j]?).bind (·.dst)=none∨∃d,(ops[j]?).bind (·.dst)=some d∧(t.getD d .un=.ud∨t.getD d .un=.v (.bool (!b))))
def Zed(P:Program)(wd ν:Nat)(ops:Array Oper)(o:Oper)(a:RA)(t:List PV)(m:Mem):Prop:=
 (Want ops o t∧∃io:Bool,iW P io wd ν o.op t m fun p' m'=>p'=a.p∧m'=app a.u m)∨(Ky ops o t∧a.p=.ud∧a.u=[])
structure Stp(P:Program)(wd ν:Nat)(ops:Array Oper)(o:Oper)(a:RA)(g:LE)(t:List PV)(m:Mem):Prop where
 ad:a.d=o.dst
 gd:g.d=o.dst
 gt:g.ts=AR ops o
 wr:∀q∈a.u,q.1∈g.wr
 ZeB:∀t2 m2,(∀s∈g.ts,t2.getD s .un=t.getD s .un)→(∀l∈g.rd,look m2 l=look m l)→Zed P wd ν ops o a t2 m2
section
variable {P:Program} {wd base:Nat} {fl:List Nat} {ops:Array Oper} {K:List LE→List PV→Mem→Prop}
theorem DG{L:Nat→Bool}:∀(as_:List RA) (i:Nat) (t:List PV),(∀k,L (i+k)=false)→vT L i as_ t=t
 | [],_,_,_=>rfl
 |a::as_,i,t,h=>by
  simp only[vT]
  rw[show L i=false from h 0]
  simp only[WU,if_false]
  exact DG as_ (i+1) t fun k=>by rw[show i+1+k=i+(k+1)by omega];exact h (k+1)
theorem DE{L:Nat→Bool}:∀(as_:List RA) (i:Nat) (m:Mem),(∀k,L (i+k)=false)→stM L i as_ m=m
 | [],_,_,_=>rfl
 |a::as_,i,m,h=>by
  simp only[stM]
  rw[show L i=false from h 0]
  simp only[WU,if_false]
  exact DE as_ (i+1) m fun k=>by rw[show i+1+k=i+(k+1)by omega];exact h (k+1)
theorem IM{t t2:List PV}(h:∀s∈S5 x,t2.getD s .un=t.getD s .un):fX t2 x=fX t x:=by
 cases x with
 |tmp i=>exact h i (by simp[S5])
 |_=>rfl
theorem JY{t:List PV}{d:Nat}(h:t.getD d .un=p)(iw:p≠.un):t.set d p=t:=by
 apply List.ext_getElem?
 intro l
 rw[List.getElem?_set]
 split
 ·rename_i e
  subst e
  split
  ·rename_i hl
   simp[W0,VT hl]at h
   rw[VT hl,h]
  ·rename_i hl
   rw[Wy (by omega)]
 ·rfl
theorem VF{o:Oper}{t t2:List PV}{m m2:Mem}{wd ν:Nat}(h1:∀s∈AR ops o,t2.getD s .un=t.getD s .un)(h2:∀l∈opR o.op t,look m2 l=look m l):Same o.op t m t2 m2:=
 ⟨fun x hx=>IM fun s hs=>h1 s (Xd _ (W9.2 ⟨x,hx,hs⟩)),h2⟩
theorem Fl:∀(l:List Oper) (i:Nat) (g:List LE) (t:List PV) (m:Mem),j2 P wd base fl ops K i l g t m→
 ∃(as_:List RA) (gs:List LE),as_.length=l.length∧gs.length=l.length∧K (g++gs) (vT (fun _=>true) i as_ t) (stM (fun _=>true) i as_ m)∧
  ∀k o,l[k]?=some o→∃a e,as_[k]?=some a∧gs[k]?=some e∧Stp P wd (base+wd*(i+k)) ops o a e (vT (fun j=>decide (j<i+k)) i as_ t) (stM (fun j=>decide (j<i+k)) i as_ m)
 | [],i,g,t,m,h=>by
  unfold j2 at h
  exact⟨[],[],rfl,rfl,by simpa[vT,stM]using h,fun k o hk=>by simp at hk⟩
 |o::l,i,g,t,m,h=>by
  -- one step,and the rest
  have next:∀(a:RA) (e:LE),j2 P wd base fl ops K (i+1) l (g++[e]) (je t a.d a.p) (app a.u m)→Stp P wd (base+wd*i) ops o a e t m→∃(as_:List RA) (gs:List LE),as_.length=(o::l).length∧gs.length=(o::l).length∧K (g++gs) (vT (fun _=>true) i as_ t) (stM (fun _=>true) i as_ m)∧
   ∀k o',(o::l)[k]?=some o'→∃a e,as_[k]?=some a∧gs[k]?=some e∧Stp P wd (base+wd*(i+k)) ops o' a e (vT (fun j=>decide (j<i+k)) i as_ t) (stM (fun j=>decide (j<i+k)) i as_ m):=by
   intro a e h hs
   obtain⟨as_,gs,h1,h2,h3,h4⟩:=Fl l (i+1) _ _ _ h
   refine⟨a::as_,e::gs,by simp[h1],by simp[h2],by simpa[vT,stM]using h3,fun k o' hk=>?_⟩
   cases k with
   |zero=>
    obtain rfl:o=o':=by simpa using hk
    refine⟨a,e,rfl,rfl,?_⟩
    rw[DG _ _ _ (fun k=>by simp),DE _ _ _ (fun k=>by simp)]
    exact hs
   |succ k=>
    obtain⟨a',e',g1,g2,g3⟩:=h4 k o' (by simpa using hk)
    refine⟨a',e',by simpa using g1,by simpa using g2,?_⟩
    simp only[vT,stM,show decide (i<i+(k+1))=true by simp,if_true]
    rw[show i+(k+1)=i+1+k by omega]
    exact g3
  have pass:∀(uQ:∀t2:List PV,(∀s∈AR ops o,t2.getD s .un=t.getD s .un)→Ky ops o t2),j2 P wd base fl ops K (i+1) l (g++[le0 ops o]) (je t o.dst .ud) m→∃(as_:List RA) (gs:List LE),as_.length=(o::l).length∧gs.length=(o::l).length∧K (g++gs) (vT (fun _=>true) i as_ t) (stM (fun _=>true) i as_ m)∧
   ∀k o',(o::l)[k]?=some o'→∃a e,as_[k]?=some a∧gs[k]?=some e∧Stp P wd (base+wd*(i+k)) ops o' a e (vT (fun j=>decide (j<i+k)) i as_ t) (stM (fun j=>decide (j<i+k)) i as_ m):=by
   intro uQ h
   exact next ⟨o.dst,.ud,[]⟩ (le0 ops o) h ⟨rfl,rfl,rfl,by simp,fun t2 m2 h1 _=>.inr ⟨uQ t2 h1,rfl,rfl⟩⟩
  have run:∀(hw:∀t2:List PV,(∀s∈AR ops o,t2.getD s .un=t.getD s .un)→Want ops o t2),(iW P false wd (base+wd*i) o.op t m fun p m'=>j2 P wd base fl ops K (i+1) l (g++[Ld ops o t wd (base+wd*i)]) (je t o.dst p) m')→∃(as_:List RA) (gs:List LE),as_.length=(o::l).length∧gs.length=(o::l).length∧K (g++gs) (vT (fun _=>true) i as_ t) (stM (fun _=>true) i as_ m)∧
   ∀k o',(o::l)[k]?=some o'→∃a e,as_[k]?=some a∧gs[k]?=some e∧Stp P wd (base+wd*(i+k)) ops o' a e (vT (fun j=>decide (j<i+k)) i as_ t) (stM (fun j=>decide (j<i+k)) i as_ m):=by
   intro hw h
   obtain⟨p,u,h1,h2,h3⟩:=LK h
   exact next ⟨o.dst,p,u⟩ (Ld ops o t wd (base+wd*i)) h1 ⟨rfl,rfl,rfl,h2,fun t2 m2 e1 e2=>.inl ⟨hw t2 e1,false,h3 t2 m2 (VF (ops:=ops) (wd:=wd) (ν:=0) e1 e2)⟩⟩
  have gs:∀{j b d},o.guard=some (j,b)→(ops[j]?).bind (·.dst)=some d→d∈AR ops o:=fun hg hd=>XB _ (by simp[Zal,hg,hd])
  simp only[j2]at h
  split at h
  ·rename_i hg
   split at h
   ·unfold LN at h
    split at h
    ·rename_i f xs Ts hop
     obtain⟨hfn,hc⟩:=h
     obtain⟨ρ,p,u,hK,E0,Ze4⟩:=OZ hc
     refine next ⟨o.dst,p,u⟩ (UP ops o ρ wd (base+wd*i)) hK ⟨rfl,rfl,rfl,E0,fun t2 m2 e1 e2=>.inl ⟨.inl hg,true,?_⟩⟩
     have Oq:xs.toList.map (fX t2)=xs.toList.map (fX t):=WZ fun x hx=>IM fun s hs=>e1 s (Xd _ (W9.2 ⟨x,by rw[hop];simp[Op.operands,Call.operands,Array.mem_toList_iff.1 hx],hs⟩))
     rw[hop]
     show xH P f∧pT P true wd _ f (xs.toList.map (fX t2)) m2 _
     rw[Oq]
     exact⟨hfn,Ze4 m2 e2⟩
    ·exact h.elim
   ·exact run (fun t2 _=>.inl hg) h
  ·rename_i j b hg
   split at h
   ·rename_i DU;exact pass (fun t2 _=>⟨j,b,hg,.inl DU⟩) h
   ·rename_i d DU
    split at h
    ·rename_i c hc
     have wV:=fun c' (hc':c=c')=>JY (t:=t) (d:=d) (p:=.v (.bool c')) (by rw[hc,hc']) (by simp)
     cases c with
     |true=>rw[wV true rfl]at h;exact run (fun t2 e=>.inr ⟨j,true,d,hg,DU,(e d (gs hg DU)).trans hc⟩) (h.1 rfl)
     |false=>rw[wV false rfl]at h;exact pass (fun t2 e=>⟨j,true,hg,.inr ⟨d,DU,.inr ((e d (gs hg DU)).trans hc)⟩⟩) (h.2 rfl)
    ·rename_i c hc
     have wV:=fun c' (hc':c=c')=>JY (t:=t) (d:=d) (p:=.v (.bool c')) (by rw[hc,hc']) (by simp)
     cases c with
     |true=>rw[wV true rfl]at h;exact pass (fun t2 e=>⟨j,false,hg,.inr ⟨d,DU,.inr ((e d (gs hg DU)).trans hc)⟩⟩) (h.1 rfl)
     |false=>rw[wV false rfl]at h;exact run (fun t2 e=>.inr ⟨j,false,d,hg,DU,(e d (gs hg DU)).trans hc⟩) (h.2 rfl)
    ·rename_i hc;exact pass (fun t2 e=>⟨j,_,hg,.inr ⟨d,DU,.inl ((e d (gs hg DU)).trans hc)⟩⟩) h
    ·exact h.elim
/-! Zcl the check ZfC. -/
def Kw(ops:List Oper)(L:Nat→Bool):Prop:=∀(j:Nat) (o:Oper),ops[j]?=some o→L j=true→∀e∈o.after.toList,Region.binds .any e=true→L e.on=true
theorem CW{L:Nat→Bool}{acc:List Nat}(D5:∀j,L j=true→∀i,(acc.getD j 0).testBit i=true→L i=true):∀(es:List Edge),(∀e∈es,Region.binds .any e=true→L e.on=true)→∀i,(es.foldr (fun e s=>if Region.binds .any e then s |||2 ^ e.on |||acc.getD e.on 0 else s) 0).testBit i=true→L i=true
 | [],_,i,h=>by simp at h
 |e::es,he,i,h=>by
  simp only[List.foldr_cons]at h
  split at h
  ·rename_i hb
   simp only[Nat.testBit_or,Bool.or_eq_true]at h
   rcases h with(h|h) |h
   ·exact CW D5 es (fun e' h'=>he e' (Wi _ h')) i h
   ·have:e.on=i:=by
     rw[Nat.testBit_two_pow]at h
     simpa using h
    rw[←this];exact he e Wp hb
   ·exact D5 e.on (he e Wp hb) i h
  ·exact CW D5 es (fun e' h'=>he e' (Wi _ h')) i h
theorem zO{ops:List Oper}{L:Nat→Bool}(qD:Kw ops L):∀(l:List Oper) (acc:List Nat),(∀k,l[k]?=ops[acc.length+k]?)→(∀j,L j=true→∀i,(acc.getD j 0).testBit i=true→L i=true)→∀j,L j=true→∀i,((Jf l acc).getD j 0).testBit i=true→L i=true
 | [],acc,_,D5=>D5
 |o::l,acc,hl,D5=>by
  unfold Jf
  refine zO qD l _ (fun k=>?_) fun j hj i hi=>?_
  ·have:=hl (k+1)
   simp only[List.getElem?_cons_succ]at this
   rw[this,List.length_append]
   simp only[VX,List.length_nil]
   congr 1;omega
  ·rcases Xg j acc.length with h|h|h
   ·refine D5 j hj i ?_
    simpa[W0,Wd h]using hi
   ·subst h
    have h0:=hl 0
    simp only[Xs,Nat.add_zero]at h0
    have lV:(RY acc o).testBit i=true:=by simpa[W0]using hi
    exact CW D5 o.after.toList (fun e he hb=>qD acc.length o h0.symm hj e he hb) i lV
   ·rw[W0,Wy (by simp;omega)]at hi
    simp at hi
theorem EA{ops:List Oper}{g:List LE}(h:Ik ops g=true){i j:Nat}(xa:i<j)(hj:j<ops.length):((Jf ops []).getD j 0).testBit i=true∨zt (g.getD i default) (g.getD j default)=true:=by
 unfold Ik at h
 have:=V5.1 h j (WW.2 hj)
 rw[VZ]at this
 have:=V5.1 this.2 i (WW.2 xa)
 simpa using this
theorem TI{ops:List Oper}{g:List LE}(h:Ik ops g=true){j:Nat}{o:Oper}(hj:ops[j]?=some o):∀e∈o.after.toList,Region.binds .any e=true→e.on<j:=by
 unfold Ik at h
 have:=V5.1 h j (WW.2 (VU.1 hj).1)
 rw[VZ,hj]at this
 have h1:=this.1
 simp only[Wr,Ws]at h1
 intro e he hb
 rw[←Yh]at h1
 have:=V5.1 h1 e he
 simpa[hb]using this
/-! The region. -/
section
variable {w:World} {O:Nat→Prop} {E:Env} {w0:World} {m:Mem} {S0:Nat→Prop} {P1:Nat→Key→Prop}
def unl(n:Nat)(cC:Array Bool):Nat:=((WO n).filter fun j=>!cC.getD j false).length
theorem VR{n i:Nat}{cC:Array Bool}(hi:i<n)(hs:cC.size=n)(h:cC.getD i false=false):unl n (cC.setIfInBounds i true)<unl n cC:=by
 unfold unl
 have e:(WO n).filter (fun j=>!(cC.setIfInBounds i true).getD j false)=((WO n).filter fun j=>!cC.getD j false).filter fun j=>decide (j≠i):=by
  rw[List.filter_filter]
  apply List.filter_congr
  intro j hj
  by_cases wz:j=i
  ·subst wz
   have:(cC.setIfInBounds j true).getD j false=true:=by simp[Xw,hs,hi]
   simp[this]
  ·have:(cC.setIfInBounds i true).getD j false=cC.getD j false:=by
    rw[WQ,WQ,Yd (fun e=>wz e.symm)]
   rw[this];simp[wz]
 rw[e]
 exact List.length_filter_lt_length_iff_exists.2 ⟨i,by
  rw[Xj]
  exact⟨WW.2 hi,by rw[h];rfl⟩,by simp⟩
structure Zae(P:Program)(wd:Nat)(ops:List Oper)(as_:List RA)(gs:List LE)(t0:List PV)(m0:Mem):Prop where
 la:as_.length=ops.length
 lg:gs.length=ops.length
 cL:Ik ops gs=true
 st:∀(k:Nat) (o:Oper),ops[k]?=some o→∃a e,as_[k]?=some a∧gs[k]?=some e∧Stp P wd (m0.length+wd*k) ops.toArray o a e (vT (fun j=>decide (j<k)) 0 as_ t0) (stM (fun j=>decide (j<k)) 0 as_ m0)
theorem Zaa{ops:Array Oper}{o:Oper}{t:List PV}(h:Want ops o t)(ht:rE w E t tm):Region.wanted o (yielded ops tm)=true:=by
 rcases h with h|⟨j,b,d,hg,hd,hs⟩
 ·exact Cy h _
 ·rw[uB hg hd ht hs];simp
theorem OV{ops:Array Oper}{o:Oper}{t:List PV}(h:Ky ops o t)(ht:rE w E t tm):Region.wanted o (yielded ops tm)=false:=by
 obtain⟨j,b,hg,h|⟨d,hd,h|h⟩⟩:=h
 ·exact IU hg h _
 ·exact IV hg hd ht h
 ·rw[uB hg hd ht h];cases b<;>rfl
def SBd(S0:Nat→Prop)(P1:Nat→Key→Prop)(w0:World)(O:Nat→Prop)(E:Env):Prop:=(∀b,E.S b→S0 b∨w0.heap.size≤b∨O b)∧∀b q,E.ω b q→P1 b q∨w0.heap.size≤b∨O b
theorem SI{w':World}{E':Env}(hk:Ok w0 O E w m)(h2:SBd S0 P1 w0 O E)(k2:Ext w w' E E'):SBd S0 P1 w0 O E':=by
 refine⟨fun b hb=>?_,fun b q hb=>?_⟩
 ·rcases k2.S' b hb with h|h|⟨l,B,hB,hz,rfl⟩
  ·exact h2.1 b h
  ·exact .inr (.inl (Wq hk.up.size h))
  ·rcases(hk.own l B hB hz).1 with h|h
   ·exact .inr (.inr h)
   ·exact .inr (.inl h)
 ·rcases k2.ω' b q hb with h|h|⟨l,B,hB,hz,rfl⟩
  ·exact h2.2 b q h
  ·exact .inr (.inl (Wq hk.up.size h))
  ·rcases(hk.own l B hB hz).1 with h|h
   ·exact .inr (.inr h)
   ·exact .inr (.inl h)
theorem IF(I5:0<wd){ops:List Oper}{as_:List RA}{gs:List LE}{t0:List PV}(Ec:Zae P wd ops as_ gs t0 m0){J:Env→Prop}(hJ:∀w w' E E',Ext w w' E E'→J E→J E'){K:List PV→Mem→Prop}{Q:Exit→Act→World→Prop}
 (hK:K (vT (fun _=>true) 0 as_ t0) (stM (fun _=>true) 0 as_ m0))
 (hQ:∀t m a w E,K t m→Ok w0 O E w m→(∀b,S0 b→E.S b)→SBd S0 P1 w0 O E→a.defers=[]→rE w E t a.tmps→J E→Q .normal a w):
 ∀(fuel:Nat) (cC:Array Bool) (a:Act) (w:World) (E:Env),cC.size=ops.length→unl ops.length cC≤fuel→Kw ops (fun j=>cC.getD j false)→
  Ok w0 O E w (stM (fun j=>cC.getD j false) 0 as_ m0)→(∀b,S0 b→E.S b)→SBd S0 P1 w0 O E→a.defers=[]→rE w E (vT (fun j=>cC.getD j false) 0 as_ t0) a.tmps→
  (∀l,E.used l→l<m0.length∨∃j,cC.getD j false=true∧m0.length+wd*j≤l∧l<m0.length+wd*j+wd)→J E→wpAny P .any ops.toArray Q fuel cC a w:=by
 -- all is cC where nothing may Zgn
 have fin:∀(cC:Array Bool),cC.size=ops.length→Region.ready .any ops.toArray cC=[]→∀j,j<ops.length→cC.getD j false=true:=by
  intro cC hs hr j
  induction j using Nat.strongRecOn with
  |_ j ih=>
   intro hj
   by_cases hl:cC.getD j false=true
   ·exact hl
   ·exfalso
    have Ea:j∈Region.ready .any ops.toArray cC:=by
     unfold Region.ready
     refine Xj.2 ⟨WW.2 (by simpa using hj),?_⟩
     have h1:cC.getD j true=false:=by
      have hjs:j<cC.size:=by rw[hs];exact hj
      have:cC.getD j false=false:=by simpa using hl
      simp only[Xw,hjs,dif_pos]at this⊢
      exact this
     rw[h1]
     obtain⟨o,ho⟩:∃o,ops[j]?=some o:=⟨ops[j],VT hj⟩
     have zn:(ops.toArray)[j]?=some o:=by simpa using ho
     rw[zn]
     simp only[Wr,Ws,Bool.not_false,Bool.true_and]
     rw[←Yh,V5]
     intro e he
     by_cases hb:Region.binds .any e=true
     ·have bF:=TI Ec.cL ho e he hb
      simp[hb,ih e.on bF (by omega)]
     ·simp[hb]
    rw[hr]at Ea
    cases Ea
 have done:∀(cC:Array Bool) (a:Act) (w:World) (E:Env),cC.size=ops.length→Region.ready .any ops.toArray cC=[]→Ok w0 O E w (stM (fun j=>cC.getD j false) 0 as_ m0)→(∀b,S0 b→E.S b)→SBd S0 P1 w0 O E→a.defers=[]→rE w E (vT (fun j=>cC.getD j false) 0 as_ t0) a.tmps→J E→Q .normal a w:=by
  intro cC a w E hs hr hk h1 h2 hd ht hj
  have tt:=fin cC hs hr
  rw[L7 as_ 0 m0 (L':=fun _=>true) fun k hk=>by simp only[Wb];exact tt k (by rw[←Ec.la];exact hk)]at hk
  rw[L8 as_ 0 t0 (L':=fun _=>true) fun k hk=>by simp only[Wb];exact tt k (by rw[←Ec.la];exact hk)]at ht
  exact hQ _ _ a w E hK hk h1 h2 hd ht hj
 intro fuel
 induction fuel with
 |zero=>
  intro cC a w E hs hu qD hk h1 h2 hd ht yD hjE
  have hr:Region.ready .any ops.toArray cC=[]:=by
   unfold Region.ready
   rw[List.filter_eq_nil_iff]
   intro j hj
   have wv:j<ops.length:=by simpa using hj
   have tt:cC.getD j false=true:=by
    unfold unl at hu
    have Rq:=W4.1 (Nat.le_zero.1 hu)
    rw[List.filter_eq_nil_iff]at Rq
    simpa using Rq j (WW.2 wv)
   have hjs:j<cC.size:=by rw[hs];exact wv
   have:cC.getD j true=true:=by
    simp only[Xw,hjs,dif_pos]at tt⊢
    exact tt
   simp[this]
  exact⟨hr,done cC a w E hs hr hk h1 h2 hd ht hjE⟩
 |succ fuel ih=>
  intro cC a w E hs hu qD hk h1 h2 hd ht yD hjE
  refine⟨fun hr=>done cC a w E hs hr hk h1 h2 hd ht hjE,fun i hi=>?_⟩
  obtain⟨hi1,hi2⟩:=Xj.1 hi
  have uC:i<ops.length:=by simpa using hi1
  obtain⟨o,ho⟩:∃o,ops[i]?=some o:=⟨ops[i],VT uC⟩
  have zn:(ops.toArray)[i]?=some o:=by simpa using ho
  rw[zn]at hi2
  simp only[Wr,Ws,VZ,Bool.not_eq_true']at hi2
  obtain⟨Zdf,Rh⟩:=hi2
  have K0:i<cC.size:=by rw[hs];exact uC
  have xb:cC.getD i false=false:=by
   simp only[Xw,K0,dif_pos]at Zdf⊢
   exact Zdf
  have Zc0:∀e∈o.after.toList,Region.binds .any e=true→cC.getD e.on false=true:=by
   intro e he hb
   rw[←Yh]at Rh
   have:=V5.1 Rh e he
   simpa[hb]using this
  obtain⟨ai,ei,ha,he,rD⟩:=Ec.st i o ho
  let L:Nat→Bool:=fun j=>cC.getD j false
  have ZeP:=zO qD ops [] (fun k=>by simp) (fun j _ i h=>by simp[W0]at h)
  -- Kk is cC behind i is apart from it;Kk is not cC ahead of it,too
  have Ue:∀{k e'},gs[k]?=some e'→gs.getD k default=e':=fun h=>by simp[W0,h]
  have KY:∀(k:Nat) (e':LE),gs[k]?=some e'→i<k→L k=true→zt ei e'=true:=by
   intro k e' hk' bF hL
   have hkn:k<ops.length:=by rw[←Ec.lg];exact(VU.1 hk').1
   rcases EA Ec.cL bF hkn with h|h
   ·have:=ZeP k hL i h
    simp[xb]at this
   ·rwa[Ue he,Ue hk']at h
  have Za8:Kw ops (ins L i):=by
   intro j o' hj hL e Rj hb
   simp only[ins]at hL⊢
   split at hL
   ·rename_i wz
    subst wz
    rw[ho]at hj
    cases hj
    split
    ·rfl
    ·exact Zc0 e Rj hb
   ·split
    ·rfl
    ·exact qD j o' hj hL e Rj hb
  have ZcY:=zO Za8 ops [] (fun k=>by simp) (fun j _ i h=>by simp[W0]at h)
  have Ul:∀(k:Nat) (e':LE),gs[k]?=some e'→k<i→L k=false→zt e' ei=true:=by
   intro k e' hk' bF hL
   rcases EA Ec.cL bF uC with h|h
   ·have:=ZcY i (by simp[ins]) k h
    simp only[ins]at this
    rw[if_neg (by omega)]at this
    rw[hL]at this;cases this
   ·rwa[Ue he,Ue hk']at h
  have part:∀{x y:LE},zt x y=true→qK x.wr y.rd=true∧qK x.wr y.wr=true∧qK y.wr x.rd=true∧qK x.d.toList y.ts=true∧qK y.d.toList x.ts=true∧qK x.d.toList y.d.toList=true:=by
   intro x y h
   simp only[zt,VZ]at h
   exact⟨h.1.1.1.1.1,h.1.1.1.1.2,h.1.1.1.2,h.1.1.2,h.1.2,h.2⟩
  -- the ZfE own entries
  have stp:∀{k:Nat} {b:RA},as_[k]?=some b→∃e':LE,gs[k]?=some e'∧b.d=e'.d∧∀q∈b.u,q.1∈e'.wr:=by
   intro k b hb
   have hkn:k<ops.length:=by rw[←Ec.la];exact(VU.1 hb).1
   obtain⟨a',e',g1,g2,g3⟩:=Ec.st k ops[k] (VT hkn)
   rw[hb]at g1
   cases g1
   exact⟨e',g2,g3.ad.trans g3.gd.symm,g3.wr⟩
  have parts:∀(k:Nat) (b:RA),as_[k]?=some b→L (0+k)≠(decide (0+k<i))→∃e':LE,gs[k]?=some e'∧b.d=e'.d∧(∀q∈b.u,q.1∈e'.wr)∧(∀s∈e'.d.toList,s ∉ ei.ts)∧∀l∈e'.wr,l ∉ ei.rd:=by
   intro k b hb iw
   rw[Wb]at iw
   obtain⟨e',g1,g2,g3⟩:=stp hb
   refine⟨e',g1,g2,g3,?_⟩
   rcases Xg k i with h|h|h
   ·have hL:L k=false:=by
     cases hLk:L k with
     |false=>rfl
     |true=>rw[hLk]at iw;simp[h]at iw
    obtain⟨p1,p2,p3,p4,p5,p6⟩:=part (Ul k e' g1 h hL)
    exact⟨fun s hs PT=>sg p4 hs PT rfl,fun l hl AA=>sg p1 hl AA rfl⟩
   ·subst h
    simp only[Nat.lt_irrefl,decide_false]at iw
    exact absurd xb iw
   ·have hL:L k=true:=by
     cases hLk:L k with
     |true=>rfl
     |false=>rw[hLk]at iw;simp[Nat.not_lt.2 (Nat.le_of_lt h)]at iw
    obtain⟨p1,p2,p3,p4,p5,p6⟩:=part (KY k e' g1 h hL)
    exact⟨fun s hs PT=>sg p5 hs PT rfl,fun l hl AA=>sg p3 hl AA rfl⟩
  have Zc1:=rD.ZeB (vT L 0 as_ t0) (stM L 0 as_ m0) (fun s hs=>FC as_ 0 t0 t0 rfl rfl fun k b hb iw=>by
   obtain⟨e',g1,g2,g3,g4,g5⟩:=parts k b hb iw
   rw[g2]
   intro vt
   exact g4 s (by rw[vt];simp) hs) (fun l hl=>FB as_ 0 m0 m0 rfl fun k b hb iw q hq=>by
   obtain⟨e',g1,g2,g3,g4,g5⟩:=parts k b hb iw
   intro hql
   exact g5 q.1 (g3 q hq) (by rw[hql];exact hl))
  -- the next state
  have Az:(fun j=>(cC.setIfInBounds i true).getD j false)=ins L i:=by
   funext j
   simp only[ins]
   split
   ·rename_i wz;subst wz;simp[Xw,K0]
   ·rename_i wz
    rw[WQ,Yd (fun e=>wz e.symm),←WQ]
  have hTi:vT (ins L i) 0 as_ t0=je (vT L 0 as_ t0) ai.d ai.p:=by
   have:=Nw (L:=L) as_ 0 i t0 ha (by rw[Wb];exact xb) fun k b hb bF hL=>by
    rw[Wb]at hL
    obtain⟨e',g1,g2,g3⟩:=stp hb
    obtain⟨p1,p2,p3,p4,p5,p6⟩:=part (KY k e' g1 bF hL)
    rw[g2,rD.ad.trans rD.gd.symm]
    cases Hx:ei.d with
    |none=>exact .inl rfl
    |some x=>
     refine .inr fun Hy=>?_
     exact sg p6 (x:=x) (y:=x) (by simp[Hx]) (by rw[←Hy];simp) rfl
   simpa using this
  have hMi:stM (ins L i) 0 as_ m0=app ai.u (stM L 0 as_ m0):=by
   have:=Nv (L:=L) as_ 0 i m0 ha (by rw[Wb];exact xb) fun k b hb bF hL q hq r hr=>by
    rw[Wb]at hL
    obtain⟨e',g1,g2,g3⟩:=stp hb
    obtain⟨p1,p2,p3,p4,p5,p6⟩:=part (KY k e' g1 bF hL)
    exact sg p2 (rD.wr q hq) (g3 r hr)
   simpa using this
  have hdd:∀x,(a.put o.dst x).defers=[]:=fun x=>by cases o.dst<;>exact hd
  have bF:=VR uC hs xb
  unfold wpOp
  rw[zn]
  rcases Zc1 with⟨hw,io,hp⟩ |⟨hw,hp,hu0⟩
  ·simp only[Zaa hw ht,if_true]
   obtain⟨p,m',⟨rfl,rfl⟩,hg⟩:=C7 hk I5 (fun r hr x7=>by
    rcases yD _ x7 with h|⟨j,hj,h3,h4⟩
    ·have:wd*i+r<wd*i+wd:=by omega
     omega
    ·have wz:j=i:=by
      rcases Xg j i with h|h|h
      ·have:wd*j+wd≤wd*i:=by
        have:=Nat.mul_le_mul_left wd (show j+1≤i by omega)
        rw[Nat.mul_add]at this;omega
       omega
      ·exact h
      ·have:wd*i+wd≤wd*j:=by
        have:=Nat.mul_le_mul_left wd (show i+1≤j by omega)
        rw[Nat.mul_add]at this;omega
       omega
     subst wz
     rw[xb]at hj;cases hj) ht hp
   refine .inl (hg _ _ fun x w' E' k1 k2 k3 k4=>ih _ _ w' E' (by simpa using hs) (by omega) ?_ ?_ (fun b hb=>k2.S b (h1 b hb)) ?_ (hdd x) ?_ (fun l hl=>?_) (hJ _ _ _ _ k2 hjE))
   ·rw[Az];exact Za8
   ·rw[Az,hMi];exact k1
   ·exact SI hk h2 k2
   ·rw[Az,hTi,rD.ad];exact(ht.ext k2).put k3 o.dst
   ·have wV:(cC.setIfInBounds i true).getD i false=true:=by simp[Xw,K0]
    have Rm:∀j,cC.getD j false=true→(cC.setIfInBounds i true).getD j false=true:=fun j hj=>by
     have this:(cC.setIfInBounds i true).getD j false=ins L i j:=congrFun Az j
     rw[this]
     simp only[ins]
     split
     ·rfl
     ·exact hj
    rcases k4 l hl with h|h
    ·rcases yD l h with h|⟨j,hj,h3⟩
     ·exact .inl h
     ·exact .inr ⟨j,Rm j hj,h3⟩
    ·exact .inr ⟨i,wV,h⟩
  ·simp only[OV hw ht,WU,if_false]
   refine ih _ _ w E (by simpa using hs) (by omega) ?_ ?_ h1 h2 (hdd _) ?_ (fun l hl=>?_) hjE
   ·rw[Az];exact Za8
   ·rw[Az,hMi,hu0];exact hk
   ·rw[Az,hTi,rD.ad,hp];exact ht.put (.c .ud) o.dst
   ·have Rm:∀j,cC.getD j false=true→(cC.setIfInBounds i true).getD j false=true:=fun j hj=>by
     have this:(cC.setIfInBounds i true).getD j false=ins L i j:=congrFun Az j
     rw[this]
     simp only[ins]
     split
     ·rfl
     ·exact hj
    rcases yD l hl with h|⟨j,hj,h3⟩
    ·exact .inl h
    ·exact .inr ⟨j,Rm j hj,h3⟩
end
end
def dropped(ρ:Nat→Option Nat)(m':Mem)(k:Nat):Prop:=∀l,tc m' l=true→ρ l≠some k
def Vu(es:List (List PV)):Prop:=∀cs∈es,∀q∈cs,qE q=true
inductive oH(ρ:Nat→Option Nat)(m m':Mem):PV→PV→Prop
 |un (p:PV):oH ρ m m' p .un
 |c (p:PV) (h:qE p=true):oH ρ m m' p p
 |ms (l k:Nat) (h:ρ l=some k) (hl:l<m'.length):oH ρ m m' (.ms k) (.ms l)
 |ss (l k a b:Nat) (h:ρ l=some k) (hl:l<m'.length):oH ρ m m' (.ss k a b) (.ss l a b)
 |be (l k i o:Nat) (h:ρ l=some k) (hl:l<m'.length):oH ρ m m' (.be k i o) (.be l i o)
 |Zaw (l:Nat) (h:ρ l=none) (hl:l<m'.length):oH ρ m m' (.v (.slice none 0 0)) (.ms l)
 |M3 (c:Nat):oH ρ m m' (.v (.slice none 0 c)) (.sl [])
 |fms (k:Nat) (mb:MB) (hm:m[k]?=some (some mb)) (hc:Vu mb.es) (hd:dropped ρ m' k):oH ρ m m' (.ms k) (.sl mb.es)
 |fss (k a b:Nat) (mb:MB) (hm:m[k]?=some (some mb)) (hc:Vu mb.es) (hd:dropped ρ m' k):oH ρ m m' (.ss k a b) (.sl ((mb.es.drop a).take (b-a)))
 |fbe (k i o:Nat) (mb:MB) (cs:List PV) (hm:m[k]?=some (some mb)) (hi:mb.es[i]?=some cs) (hc:∀q∈cs,qE q=true) (hd:dropped ρ m' k):oH ρ m m' (.be k i o) (.rp (cs.drop o))
 |fn (f:FuncId) (cs ds:List PV) (hl:ds.length=cs.length) (h:∀(j:Nat) (p r:PV),cs[j]?=some p→ds[j]?=some r→oH ρ m m' p r):oH ρ m m' (.fn f cs) (.fn f ds)
def rX(ρ:Nat→Option Nat)(m m':Mem):List PV→List PV→Prop
 | [],[]=>True
 |p::ps,r::rs=>oH ρ m m' p r∧rX ρ m m' ps rs
 |_,_=>False
inductive FT(ρ:Nat→Option Nat)(m m':Mem):PV→PV→Prop
 |c {p r:PV} (h:oH ρ m m' p r):FT ρ m m' p r
 |ag (cs ds:List PV) (h:rX ρ m m' cs ds):FT ρ m m' (.ag cs) (.ag ds)
def Cj(ρ:Nat→Option Nat)(m m':Mem):List PV→List PV→Prop
 | [],[]=>True
 |p::ps,r::rs=>FT ρ m m' p r∧Cj ρ m m' ps rs
 |_,_=>False
inductive DY(ρ:Nat→Option Nat)(m m':Mem):PV→PV→Prop
 |a {p r:PV} (h:FT ρ m m' p r):DY ρ m m' p r
 |tu (cs ds:List PV) (h:Cj ρ m m' cs ds):DY ρ m m' (.tu cs) (.tu ds)
def oI(ρ:Nat→Option Nat)(m m':Mem):List PV→List PV→Prop
 | [],[]=>True
 |p::ps,r::rs=>DY ρ m m' p r∧oI ρ m m' ps rs
 |_,_=>False
def yo(ρ:Nat→Option Nat)(m m':Mem):List (List PV)→List (List PV)→Prop
 | [],[]=>True
 |p::ps,r::rs=>rX ρ m m' p r∧yo ρ m m' ps rs
 |_,_=>False
def ZcE(ρ:Nat→Option Nat)(m m':Mem)(mb nW:MB):Prop:=
 nW.T.t=mb.T.t∧nW.k=mb.k∧((nW.es=mb.es∧Vu mb.es)∨yo ρ m m' mb.es nW.es)
def ZaB(m:Mem)(k:Nat)(q:Key):Prop:=∃(l:Nat) (mb:MB) (T:TypeId) (i:Nat) (cs:List PV) (j:Nat),m[l]?=some (some mb)∧mb.T.kd=some T∧mb.es[i]?=some cs∧cs[j]?=some (PV.ms k)∧q=(mb.T.t,i,j)
def AdU(m:Mem)(k:Nat)(q:Key):Prop:=ZaB m k q∧∀q',ZaB m k q'→q'=q
def N6(ρ:Nat→Option Nat)(m m':Mem)(mb nW:MB):Prop:=
 ∀T,nW.T.kd=some T→∀(i:Nat) (ds:List PV) (j:Nat) (es:List (List PV)),nW.es[i]?=some ds→ds[j]?=some (.sl es)→es≠[]→
  (mb.T.kd=some T∧∃cs,mb.es[i]?=some cs∧cs[j]?=some (.sl es))∨
  ∃cs k mk,mb.es[i]?=some cs∧cs[j]?=some (.ms k)∧AdU m k (mb.T.t,i,j)∧m[k]?=some (some mk)∧mk.T.t=T∧mk.es=es∧dropped ρ m' k
structure Zcd(n0:Nat)(ρ:Nat→Option Nat)(m m':Mem):Prop where
 row:∀l nW,m'[l]?=some (some nW)→(∃k mb,ρ l=some k∧m[k]?=some (some mb)∧ZcE ρ m m' mb nW∧N6 ρ m m' mb nW)∨(ρ l=none∧nW.es=[]∧0<nW.k)
 inj:∀l l' k,tc m' l=true→tc m' l'=true→ρ l=some k→ρ l'=some k→l=l'
 low:∀l,l<n0→tc m' l=true→ρ l=some l
 n0:n0≤m'.length
def Cut(n0:Nat)(t:List PV)(m:Mem)(t':List PV)(m':Mem):Prop:=∃ρ:Nat→Option Nat,oI ρ m m' t t'∧Zcd n0 ρ m m'
inductive jy(n0:Nat):List PV→Mem→List PV→Mem→Prop
 |one {t m t' m'} (h:Cut n0 t m t' m'):jy n0 t m t' m'
 |two {t m t1 m1 t' m'} (h:Cut n0 t m t1 m1) (h':jy n0 t1 m1 t' m'):jy n0 t m t' m'
def rB(K:List PV→Mem→Prop)(Q:Exit→List PV→Mem→Prop):Exit→List PV→Mem→Prop
 |.normal,t,m=>K t m
 |e,t,m=>Q e t m
def vh(id:Nat)(Q:Exit→List PV→Mem→Prop):Exit→List PV→Mem→Prop
 |.exit i,t,m=>if i=id then Q .normal t m else Q (.exit i) t m
 |e,t,m=>Q e t m
def ZbL(P:Program)(draw:Bool)(ops:Array Oper)(K:List PV→Mem→Prop)(t:List PV)(m:Mem):Prop:=
 match draw with
 |false=>sa P ops K ops.toList t m
 |true=>P.follows .mixedOrders=true∧∃wd fl,0<wd∧j2 P wd m.length fl ops (fun g t m=>Ik ops.toList g=true∧K t m) 0 ops.toList [] t m
def qH(P:Program)(n0:Nat):Code→(Exit→List PV→Mem→Prop)→List PV→Mem→Prop
 |.skip,Q,t,m=>Q .normal t m
 |.seq a b,Q,t,m=>qH P n0 a (rB (fun t m=>qH P n0 b Q t m) Q) t m
 |.cond c x y,Q,t,m=>match fX t c with
  |.v (.bool b)=>if b=true then qH P n0 x Q t m else qH P n0 y Q t m
  |_=>False
 |.block id c,Q,t,m=>qH P n0 c (vh id Q) t m
 |.loop c,Q,t,m=>∃(I:Nat→List PV→Mem→Prop) (n:Nat) (t0:List PV) (m0:Mem),jy n0 t m t0 m0∧I n t0 m0∧∀n t m,I n t m→qH P n0 c (rB (fun t m=>∃k t' m',k<n∧jy n0 t m t' m'∧I k t' m') Q) t m
 |.exit i,Q,t,m=>Q (.exit i) t m
 |.ret,Q,t,m=>Q .ret t m
 |.region _ ops draw,Q,t,m=>ZbL P draw ops (Q .normal) t m∨∃t1 m1,jy n0 t m t1 m1∧ZbL P draw ops (Q .normal) t1 m1
 |_,_,_,_=>False
structure Fr where
 w0:World
 O:Nat→Prop
 β0:Nat→Option qa
 n0:Nat
 S0:Nat→Prop
 P1:Nat→Key→Prop
def rj(F:Fr)(t:List PV)(m:Mem)(a:Act)(w:World):Prop:=
 ∃E,Ok F.w0 F.O E w m∧(∀b,F.S0 b→E.S b)∧SBd F.S0 F.P1 F.w0 F.O E∧(∀l B,l<F.n0→E.β l=some B→F.β0 l=some B)∧(∀l,l<F.n0→E.used l)∧a.defers=[]∧rE w E t a.tmps
section
variable {w:World} {O:Nat→Prop} {E:Env} {w0:World} {m m':Mem} {P:Program} {ρ:Nat→Option Nat} {n0:Nat} {F:Fr}
def sC(E:Env)(m:Mem)(ρ:Nat→Option Nat)(m':Mem):Env:=
 { S:=fun b=>E.S b∨∃k B,E.β k=some B∧B.z=false∧B.b=b∧dropped ρ m' k
   β:=fun l=>match m'[l]? with
    |some (some nW)=>match ρ l with
     |some k=>E.β k
     |none=>some ⟨0,0,0,nW.k,nW.T.t,true⟩
    |_=>none
   used:=fun l=>l<m'.length
   ω:=fun b q=>E.ω b q∨∃k B,E.β k=some B∧B.z=false∧B.b=b∧dropped ρ m' k∧AdU m k q}
theorem jU{B:qa}(h:(sC E m ρ m').β l=some B):tc m' l=true∧((∃k,ρ l=some k∧E.β k=some B)∨(ρ l=none∧B.z=true)):=by
 simp only[sC]at h
 split at h
 ·rename_i nW hm
  refine⟨tW.2 ⟨nW,hm⟩,?_⟩
  split at h
  ·exact .inl ⟨_,by assumption,h⟩
  ·refine .inr ⟨by assumption,?_⟩
   simp only[V1]at h
   rw[←h]
 ·cases h
theorem N5{B:qa}(hB:(sC E m ρ m').β l=some B)(hn:ρ l=none):B.sv=.slice none 0 0:=by
 rcases(jU hB).2 with⟨k,h,_⟩ |⟨_,h⟩
 ·rw[hn]at h;cases h
 ·simp[qa.sv,h]
theorem Co(hk:Ok w0 O E w m)(h:oH ρ m m' p r):∀{x:Value},dL w E p x→dL w (sC E m ρ m') r x:=by
 induction h with
 |un p=>intro x hx;exact .un' x
 |c p h=>intro x hx;exact .c ((hx.VN h).all fun b hb=>.inl hb)
 |ms l k h hl=>
  intro x hx
  cases hx with
  |c h=>cases h
  |ms _ _ _ h1 h2=>
   refine .ms _ _ hl h1 fun B hB=>?_
   rcases(jU hB).2 with⟨k',e,kL⟩ |⟨e,_⟩
   ·rw[h]at e;cases e;exact h2 B kL
   ·rw[h]at e;cases e
 |ss l k a b h hl=>
  intro x hx
  cases hx with
  |c h=>cases h
  |ss _ _ _ _ _ h1 h2=>
   refine .ss _ _ _ _ hl h1 fun B hB=>?_
   rcases(jU hB).2 with⟨k',e,kL⟩ |⟨e,_⟩
   ·rw[h]at e;cases e;exact h2 B kL
   ·rw[h]at e;cases e
 |be l k i o h hl=>
  intro x hx
  cases hx with
  |c h=>cases h
  |be _ _ _ _ _ h1 h2=>
   refine .be _ _ _ _ hl h1 fun B hB=>?_
   rcases(jU hB).2 with⟨k',e,kL⟩ |⟨e,_⟩
   ·rw[h]at e;cases e;exact h2 B kL
   ·rw[h]at e;cases e
 |Zaw l h hl=>
  intro x hx
  obtain⟨rfl,h1⟩:=hx.iG
  exact .ms _ _ hl h1 fun B hB=>(N5 hB h).symm
 |M3 c=>
  intro x hx
  obtain⟨rfl,_⟩:=hx.iG
  exact .c (.nil none c)
 |fms k mb hm hc hd=>
  intro x hx
  obtain⟨B,hB,hb,rfl⟩:=hx.sI hk hm
  exact .c (Nk hB hb hc (fun b hb=>.inl hb) fun hz=>.inr ⟨k,B,hB,hz,rfl,hd⟩)
 |fss k a b mb hm hc hd=>
  intro x hx
  obtain⟨B,hB,hb,A,c,rfl,Ba,PO,hA⟩:=hx.Al hk hm
  exact .c (Dq hB hb hc (fun b hb=>.inl hb) (fun hz=>.inr ⟨k,B,hB,hz,rfl,hd⟩) Ba PO hA)
 |fbe k i o mb cs hm hi hc hd=>
  intro x hx
  obtain⟨B,hB,hb,hz,rfl⟩:=hx.BY hk hm
  obtain⟨cells,m1,m2,m3⟩:=hb.mem hz
  have hex:∀j:Nat,∃u:Value,∀p,cs[o+j]?=some p→cells[i*B.k+(o+j)]?=some u∧u.oneCell'=true∧fA w (sC E m ρ m').S p u:=by
   intro j
   cases hj:cs[o+j]? with
   |none=>exact⟨undef,fun p h=>by simp at h⟩
   |some p=>
    obtain⟨u,u1,u2,u3⟩:=m3 i cs (o+j) p hi hj
    refine⟨u,fun p' h=>?_⟩
    simp only[V1]at h
    subst h
    exact⟨u1,u2,(u3.VN (hc p (VW hj))).all fun b hb=>.inl hb⟩
  obtain⟨f,hf⟩:=XA hex
  refine .c (.rp _ B.b (i*B.k+o) f (.inr ⟨k,B,hB,hz,rfl,hd⟩) (fun j p hj=>?_) (fun j p hj=>?_) fun j p hj=>?_)
  ·rw[WE]at hj
   rw[cell_of_row w B.b _ cells B.T (0,0) m1,Xu];exact(hf j p hj).1
  ·rw[WE]at hj;exact(hf j p hj).2.1
  ·rw[WE]at hj;exact(hf j p hj).2.2
 |fn f cs ds hl h ih=>
  intro x hx
  obtain⟨vs,rfl,hvl,hr⟩:=hx.Ge
  refine .fn f ds vs (by rw[hvl,hl]) fun j r x HD rQ=>?_
  have hj:j<cs.length:=by rw[←hl];exact(VU.1 HD).1
  exact ih j cs[j] r (VT hj) HD (hr j _ x (VT hj) rQ)
theorem tH:∀{ps rs:List PV},rX ρ m m' ps rs→rs.length=ps.length∧∀(j:Nat) (r:PV),rs[j]?=some r→∃p,ps[j]?=some p∧oH ρ m m' p r
 | [],[],_=>⟨rfl,by simp⟩
 | [],_::_,h=>h.elim
 |_::_,[],h=>h.elim
 |p::ps,r::rs,h=>by
  obtain⟨h1,h2⟩:=tH h.2
  refine⟨by simp[h1],fun j q hq=>?_⟩
  cases j with
  |zero=>obtain rfl:r=q:=by simpa using hq
         exact⟨p,rfl,h.1⟩
  |succ j=>exact h2 j q (by simpa using hq)
theorem Ir(hk:Ok w0 O E w m)(h:FT ρ m m' p r){x:Value}(hx:dL w E p x):dL w (sC E m ρ m') r x:=by
 cases h with
 |c h=>exact Co hk h hx
 |ag cs ds h=>
  obtain⟨vs,rfl,hl,h1,hr⟩:=hx.qg
  obtain⟨e1,e2⟩:=tH h
  refine .ag _ vs (by rw[hl,e1]) h1 fun j r x HD rQ=>?_
  obtain⟨p,hp,hc⟩:=e2 j r HD
  exact Co hk hc (hr j p x hp rQ)
theorem ED:∀{ps rs:List PV},Cj ρ m m' ps rs→rs.length=ps.length∧∀(j:Nat) (r:PV),rs[j]?=some r→∃p,ps[j]?=some p∧FT ρ m m' p r
 | [],[],_=>⟨rfl,by simp⟩
 | [],_::_,h=>h.elim
 |_::_,[],h=>h.elim
 |p::ps,r::rs,h=>by
  obtain⟨h1,h2⟩:=ED h.2
  refine⟨by simp[h1],fun j q hq=>?_⟩
  cases j with
  |zero=>obtain rfl:r=q:=by simpa using hq
         exact⟨p,rfl,h.1⟩
  |succ j=>exact h2 j q (by simpa using hq)
theorem QR(hk:Ok w0 O E w m)(h:DY ρ m m' p r){x:Value}(hx:dL w E p x):dL w (sC E m ρ m') r x:=by
 cases h with
 |a h=>exact Ir hk h hx
 |tu cs ds h=>
  obtain⟨vs,rfl,hl,hr⟩:=hx.xV
  obtain⟨e1,e2⟩:=ED h
  refine .tu _ vs (by rw[hl,e1]) fun j r x HD rQ=>?_
  obtain⟨p,hp,hc⟩:=e2 j r HD
  exact Ir hk hc (hr j p x hp rQ)
theorem IC:∀{ps rs:List PV},oI ρ m m' ps rs→rs.length=ps.length∧∀(j:Nat) (r:PV),rs[j]?=some r→∃p,ps[j]?=some p∧DY ρ m m' p r
 | [],[],_=>⟨rfl,by simp⟩
 | [],_::_,h=>h.elim
 |_::_,[],h=>h.elim
 |p::ps,r::rs,h=>by
  obtain⟨h1,h2⟩:=IC h.2
  refine⟨by simp[h1],fun j q hq=>?_⟩
  cases j with
  |zero=>obtain rfl:r=q:=by simpa using hq
         exact⟨p,rfl,h.1⟩
  |succ j=>exact h2 j q (by simpa using hq)
theorem sB:∀{ps rs:List (List PV)},yo ρ m m' ps rs→rs.length=ps.length∧∀(j:Nat) (r:List PV),rs[j]?=some r→∃p,ps[j]?=some p∧rX ρ m m' p r
 | [],[],_=>⟨rfl,by simp⟩
 | [],_::_,h=>h.elim
 |_::_,[],h=>h.elim
 |p::ps,r::rs,h=>by
  obtain⟨h1,h2⟩:=sB h.2
  refine⟨by simp[h1],fun j q hq=>?_⟩
  cases j with
  |zero=>obtain rfl:r=q:=by simpa using hq
         exact⟨p,rfl,h.1⟩
  |succ j=>exact h2 j q (by simpa using hq)
theorem Ok.cut(hk:Ok w0 O E w m)(h:Zcd n0 ρ m m'):Ok w0 O (sC E m ρ m') w m':=by
 refine⟨hk.up,?_,fun l B hB hz=>?_,fun l l' B B' hB kL hz tT e=>?_,fun l hl=>hl,fun l B hB=>?_,fun l nW xA=>?_,fun l B hB=>tW.1 (jU hB).1,hk.Tm,fun b q hq=>?_⟩
 ·rintro b (hb|⟨k,B,hB,hz,rfl,_⟩)
  ·exact hk.sz b hb
  ·exact(hk.own k B hB hz).2.1
 ·obtain⟨hl,⟨k,e,kL⟩ |⟨_,tT⟩⟩:=jU hB
  ·obtain⟨a,b,c⟩:=hk.own k B kL hz
   refine⟨a,b,?_⟩
   rintro(hS|⟨k2,B2,hB2,Ov,e2,uQ⟩)
   ·exact c hS
   ·have:=hk.inj k k2 B B2 kL hB2 hz Ov e2.symm
    subst this
    exact uQ l hl e
  ·rw[hz]at tT;cases tT
 ·obtain⟨hl,⟨k,e1,h1⟩ |⟨_,h1⟩⟩:=jU hB
  ·obtain⟨AA,⟨k',e2,h2⟩ |⟨_,h2⟩⟩:=jU kL
   ·have:=hk.inj k k' B B' h1 h2 hz tT e
    subst this
    exact h.inj l l' k hl AA e1 e2
   ·rw[tT]at h2;cases h2
  ·rw[hz]at h1;cases h1
 ·have:=(jU hB).1
  obtain⟨mb,hm⟩:=tW.1 this
  exact(VU.1 hm).1
 ·rcases h.row l nW xA with⟨k,mb,hρ,hm,⟨hT,D8,xx⟩,Zbc⟩ |⟨hρ,h0,gz⟩
  ·obtain⟨B,hB,hb⟩:=hk.mem k mb hm
   refine⟨B,by simp only[sC];rw[xA];simp only[hρ];exact hB,by rw[hb.k,D8],?_,by rw[hb.T,hT],hb.pos,hb.nc,hb.cm,?_,fun hz=>?_,fun hz=>?_,fun T1 hT1 hz i ds j es x hi hj iw Td=>?_⟩
   ·rcases xx with⟨e,_⟩ |he
    ·rw[hb.n,e]
    ·rw[hb.n,(sB he).1]
   ·intro i ds hi
    rcases xx with⟨e,_⟩ |he
    ·rw[e]at hi;exact hb.es i ds hi
    ·obtain⟨cs,qF,hc⟩:=(sB he).2 i ds hi
     rw[(tH hc).1];exact hb.es i cs qF
   ·have h0:=hb.nil hz
    rcases xx with⟨e,_⟩ |he
    ·rw[e];exact h0
    ·have:=(sB he).1
     rw[h0]at this
     exact W4.1 this
   ·obtain⟨cells,m1,m2,m3⟩:=hb.mem hz
    refine⟨cells,m1,m2,fun i ds j r hi hj=>?_⟩
    rcases xx with⟨e,qD⟩ |he
    ·rw[e]at hi
     obtain⟨x,x1,x2,x3⟩:=m3 i ds j r hi hj
     exact⟨x,x1,x2,.c ((x3.VN (qD ds (VW hi) r (VW hj))).all fun b hb=>.inl hb)⟩
    ·obtain⟨cs,qF,hc⟩:=(sB he).2 i ds hi
     obtain⟨p,hp,hc'⟩:=(tH hc).2 j r hj
     obtain⟨x,x1,x2,x3⟩:=m3 i cs j p qF hp
     exact⟨x,x1,x2,Co hk hc' x3⟩
   ·rw[hT]
    rcases Zbc T1 hT1 i ds j es hi hj iw with⟨g1,cs,g2,g3⟩ |⟨cs,kk,mk,g1,g2,g3,g4,g5,g6,g7⟩
    ·obtain⟨b,c,k',pS,a1,a2,a3⟩:=hb.key T1 g1 hz i cs j es x g2 g3 iw Td
     exact⟨b,c,k',pS,a1,.inl a2,a3⟩
    ·obtain⟨Bk,Ra,D6⟩:=hk.mem kk mk g4
     obtain⟨cells,m1,m2,m3⟩:=hb.mem hz
     obtain⟨y,y1,y2,y3⟩:=m3 i cs j _ g1 g2
     rw[cell_of_row w B.b _ cells B.T (0,0) m1,y1]at Td
     obtain rfl:y=x:=by simpa using Td
     obtain⟨B1,u0,_,rfl⟩:=y3.sI hk g4
     obtain rfl:Bk=B1:=by rw[Ra]at u0;simpa using u0
     have Ks:Bk.z=false:=D6.Zak (by rw[g6];exact List.length_pos_iff.2 iw)
     obtain⟨ZaN,n1,n2,n3⟩:=D6.mem Ks
     refine⟨Bk.b,Bk.c,Bk.k,ZaN,by rw[show Bk.sv=.slice (some ⟨Bk.b,0,none⟩) Bk.n Bk.c by simp[qa.sv,Ks],D6.n,g6],.inr ⟨kk,Bk,Ra,Ks,rfl,g7,g3⟩,by rw[←g5,←D6.T];exact n1,n2,D6.pos,by rw[←g6,←D6.n];exact D6.nc,D6.cm,fun e he=>?_⟩
     rw[←g6]at he
     obtain⟨i1,hi1⟩:=List.getElem?_of_mem he
     exact D6.es i1 e hi1
  ·refine⟨⟨0,0,0,nW.k,nW.T.t,true⟩,by simp only[sC];rw[xA];simp only[hρ],rfl,by rw[h0];rfl,rfl,gz,Nat.le_refl _,WV _,by rw[h0];simp,fun _=>h0,fun h=>(by cases h),fun _ _ h=>by cases h⟩
 ·rcases hq with hq|⟨k,B,hB,hz,rfl,hd,ha⟩
  ·refine⟨.inl (hk.ow b q hq).1,fun q' Uw=>?_⟩
   rcases Uw with h'|⟨k,B,hB,hz,rfl,_⟩
   ·exact(hk.ow b q hq).2 q' h'
   ·exact absurd (hk.ow _ q hq).1 (hk.own k B hB hz).2.2
  ·refine⟨.inr ⟨k,B,hB,hz,rfl,hd⟩,fun q' Uw=>?_⟩
   rcases Uw with h'|⟨k2,B2,hB2,Ov,e2,_,ha2⟩
   ·exact absurd (hk.ow _ q' h').1 (hk.own k B hB hz).2.2
   ·have:=hk.inj k2 k B2 B hB2 hB Ov hz e2
    subst this
    exact ha.2 q' ha2.1
theorem rj.cut{t t':List PV}{a:Act}(h:rj F t m a w)(hc:Cut F.n0 t m t' m'):rj F t' m' a w:=by
 obtain⟨E,hk,xD,u6,Hw,hu0,hd,ht⟩:=h
 obtain⟨ρ,h1,h2⟩:=hc
 obtain⟨e1,e2⟩:=IC h1
 refine⟨sC E m ρ m',hk.cut h2,fun b hb=>.inl (xD b hb),⟨fun b hb=>?_,fun b q hb=>?_⟩,fun l B hl hB=>?_,fun l hl=>Nat.lt_of_lt_of_le hl h2.n0,hd,by rw[ht.1,e1],fun i r hr=>?_⟩
 ·rcases hb with hb|⟨k,B,hB,hz,rfl,_⟩
  ·exact u6.1 b hb
  ·rcases(hk.own k B hB hz).1 with h|h
   ·exact .inr (.inr h)
   ·exact .inr (.inl h)
 ·rcases hb with hb|⟨k,B,hB,hz,rfl,_⟩
  ·exact u6.2 b q hb
  ·rcases(hk.own k B hB hz).1 with h|h
   ·exact .inr (.inr h)
   ·exact .inr (.inl h)
 ·obtain⟨sn,⟨k,e,kL⟩ |⟨e,_⟩⟩:=jU hB
  ·rw[h2.low l hl sn]at e
   cases e
   exact Hw l B hl kL
  ·rw[h2.low l hl sn]at e;cases e
 ·obtain⟨p,hp,yy⟩:=e2 i r hr
  exact QR hk yy (ht.2 i p hp)
theorem rj.T3{t t':List PV}{a:Act}{n0:Nat}(hc:jy n0 t m t' m')(hn:F.n0=n0)(h:rj F t m a w):rj F t' m' a w:=by
 subst hn
 induction hc with
 |one hc=>exact h.cut hc
 |two hc _ ih=>exact ih (h.cut hc)
theorem PG{Q:Exit→Act→World→Prop}(I:Nat→Act→World→Prop)(round:∀n a w,I n a w→c.wp P (Exit.then (fun a' w'=>∃k,k<n∧I k a' w') Q) a w){a:Act}{w:World}(h0:I n a w):(Code.loop c).wp P Q a w:=by
 intro b k cs
 have key:∀n a w,I n a w→∃e a' w',Q e a' w'∧Arrives P (lone (b.at a (.code c::.inLoop c::k)) cs w) b k cs e a' w':=by
  intro n
  induction n using Nat.strongRecOn with
  |_ n ih=>
   intro a w hI
   obtain⟨e,NW,PH,hq,IX⟩:=round n a w hI b (.inLoop c::k) cs
   cases e with
   |normal=>
    obtain⟨j,bF,ZcQ⟩:=hq
    obtain⟨ZeC,Zej,ZfI,Zdk,Uk⟩:=ih j bF NW PH ZcQ
    exact⟨ZeC,Zej,ZfI,Zdk,.of_steps (Steps.trans IX (.one step_inLoop)) Uk⟩
   |exit id=>exact⟨_,NW,PH,hq,.pass (x:=.inLoop c) rfl (fun _ _=>.inl (by simp)) IX⟩
   |goto l=>exact⟨_,NW,PH,hq,.pass (x:=.inLoop c) rfl (fun _ _=>.inl (by simp)) IX⟩
   |ret=>exact⟨_,NW,PH,hq,.pass (x:=.inLoop c) rfl (fun _ _=>.inl (by simp)) IX⟩
   |panic ch=>exact⟨_,NW,PH,hq,.pass (x:=.inLoop c) rfl (fun _ _=>.inl (by simp)) IX⟩
   |outgrown=>exact⟨_,NW,PH,hq,.pass (x:=.inLoop c) rfl (fun _ _=>.inl (by simp)) IX⟩
 obtain⟨e,a',w',hq,IX⟩:=key n a w h0
 exact⟨e,a',w',hq,.of_steps (.one step_loop) IX⟩
def RO(F:Fr)(Q:Exit→List PV→Mem→Prop):Exit→Act→World→Prop:=fun e a w=>∃t m,Q e t m∧rj F t m a w
theorem Fu{ops:Array Oper}{draw:Bool}{Q:Exit→List PV→Mem→Prop}{t:List PV}{m:Mem}{a:Act}{w:World}(h:ZbL P draw ops (Q .normal) t m)(hr:rj F t m a w):(Code.region id ops draw).wp P (RO F Q) a w:=by
 obtain⟨E,hk,xD,u6,Hw,hu0,hd,ht⟩:=hr
 cases draw with
 |false=>
  refine wp_region_list (xM ops.toList t m E w a hk hd ht h ?_)
  intro t m E' w' a' hK h1 hx h2 h3
  exact⟨t,m,hK,E',h1,fun b hb=>hx.S b (xD b hb),SI hk u6 hx,fun l B hl hB=>Hw l B hl (hx.β l B (hu0 l hl) hB),fun l hl=>hx.used l (hu0 l hl),h2,h3⟩
 |true=>
  obtain⟨hf,wd,fl,I5,hp⟩:=h
  obtain⟨as_,gs,h1,h2,⟨ZcX,hK⟩,rD⟩:=Fl ops.toList 0 [] t m hp
  simp only[List.nil_append]at ZcX
  have Ec:Zae P wd ops.toList as_ gs t m:=⟨h1,h2,ZcX,fun k o hko=>by
   obtain⟨a,e,g1,g2,g3⟩:=rD k o hko
   simp only[Wb]at g3
   exact⟨a,e,g1,g2,g3⟩⟩
  have hu:Ok F.w0 F.O E { w with drawn:=w.drawn+1} m∧Ext w { w with drawn:=w.drawn+1} E E:=hk.drew 1
  refine wp_region_any hf ?_
  have hre:∀(j:Nat),(Xp ops.size false).getD j false=false:=fun j=>by
   rw[WQ,Yy]
   split<;>rfl
  have Zc4:(fun j=>(Xp ops.size false).getD j false)=fun _=>false:=funext hre
  have Zdi:ops.toList.toArray=ops:=by simp
  have key:=IF (w0:=F.w0) (O:=F.O) (S0:=F.S0) (P1:=F.P1) I5 Ec (J:=fun E=>(∀l B,l<F.n0→E.β l=some B→F.β0 l=some B)∧∀l,l<F.n0→E.used l)
   (fun w w' E E' hx hJ=>⟨fun l B hl hB=>hJ.1 l B hl (hx.β l B (hJ.2 l hl) hB),fun l hl=>hx.used l (hJ.2 l hl)⟩) (K:=Q .normal) (Q:=RO F Q) hK
   (fun t m a w E hK hk h1 h2 hd ht hJ=>⟨t,m,hK,E,hk,h1,h2,hJ.1,hJ.2,hd,ht⟩) ops.size (Xp ops.size false) a _ E (by simp) (by
    unfold unl
    refine Wq (List.length_filter_le _ _) (by simp)) (by
    intro j o hj hL
    exact absurd ((hre j).symm.trans hL) (by simp)) (by rw[Zc4,DE _ _ _ (fun _=>rfl)];exact hu.1) xD u6 hd (by rw[Zc4,DG _ _ _ (fun _=>rfl)];exact ht.ext hu.2)
    (fun l hl=>.inl (hk.used l hl)) ⟨Hw,hu0⟩
  rw[Zdi]at key
  exact key
theorem qU:∀(c:Code) (Q:Exit→List PV→Mem→Prop) (t:List PV) (m:Mem) (a:Act) (w:World),qH P F.n0 c Q t m→rj F t m a w→c.wp P (RO F Q) a w
 |.skip,Q,t,m,a,w,h,hr=>wp_skip ⟨t,m,h,hr⟩
 |.seq x y,Q,t,m,a,w,h,hr=>by
  refine wp_seq (Code.wp_mono ?_ (qU x _ t m a w h hr))
  rintro e a w ⟨t,m,hq,hr⟩
  cases e with
  |normal=>exact qU y Q t m a w hq hr
  |_=>exact⟨t,m,hq,hr⟩
 |.cond c x y,Q,t,m,a,w,h,hr=>by
  simp only[qH]at h
  split at h
  ·rename_i b hb
   have HD:=hr
   obtain⟨E,hk,_,_,_,_,hd,ht⟩:=HD
   have hv:=yt ht c
   rw[hb]at hv
   have hv:=hv.iG.1
   cases b with
   |true=>exact wp_cond_true hv (qU x Q t m a w (by simpa using h) hr)
   |false=>exact wp_cond_false hv (qU y Q t m a w (by simpa using h) hr)
  ·exact h.elim
 |.block id c,Q,t,m,a,w,h,hr=>by
  refine wp_block (Code.wp_mono ?_ (qU c _ t m a w h hr))
  rintro e a w ⟨t,m,hq,hr⟩
  cases e with
  |exit i=>
   simp only[Exit.inBlock]
   simp only[vh]at hq
   split
   ·rename_i hi;rw[if_pos hi]at hq;exact⟨t,m,hq,hr⟩
   ·rename_i hi;rw[if_neg hi]at hq;exact⟨t,m,hq,hr⟩
  |_=>exact⟨t,m,hq,hr⟩
 |.loop c,Q,t,m,a,w,h,hr=>by
  obtain⟨I,n,t0,m0,hcut,hI,K5⟩:=h
  refine PG (fun n a w=>∃t m,I n t m∧rj F t m a w) ?_ ⟨t0,m0,hI,rj.T3 hcut rfl hr⟩
  rintro n a w ⟨t,m,hI,hr⟩
  refine Code.wp_mono ?_ (qU c _ t m a w (K5 n t m hI) hr)
  rintro e a w ⟨t,m,hq,hr⟩
  cases e with
  |normal=>
   obtain⟨k,t',m',bF,hcut,hI⟩:=hq
   exact⟨k,bF,t',m',hI,rj.T3 hcut rfl hr⟩
  |_=>exact⟨t,m,hq,hr⟩
 |.exit i,Q,t,m,a,w,h,hr=>wp_exit ⟨t,m,h,hr⟩
 |.ret,Q,t,m,a,w,h,hr=>wp_ret ⟨t,m,h,hr⟩
 |.region id ops draw,Q,t,m,a,w,h,hr=>by
  rcases h with h|⟨t1,m1,hc,h⟩
  ·exact Fu h hr
  ·exact Fu h (rj.T3 hc rfl hr)
 |.scope _,_,_,_,_,_,h,_=>h.elim
 |.label _,_,_,_,_,_,h,_=>h.elim
 |.goto _,_,_,_,_,_,h,_=>h.elim
 |.rangeFunc ..,_,_,_,_,_,h,_=>h.elim
 |.refuse _,_,_,_,_,_,h,_=>h.elim
def Dl(P:Program):List ResultVar→List PV→Mem→(List PV→Prop)→Prop
 | [],_,_,K=>K []
 |.tmp i::rest,t,m,K=>Dl P rest t m fun ps=>K (t.getD i .un::ps)
 |.cell i T::rest,t,m,K=>rR P T (Kv m (t.getD i .un)) fun p=>Dl P rest t m fun ps=>K (p::ps)
def Ei:List PV→PV
 | [p]=>p
 |ps=>.tu ps
def OW:List Value→Value
 | [v]=>v
 |vs=>.tuple vs.toArray
theorem xQ(hk:Ok w0 O E w m){t:List PV}{a:Act}(ht:rE w E t a.tmps):∀(rs:List ResultVar) (K:List PV→Prop),Dl P rs t m K→
 ∃ps vs,K ps∧(rs.mapM fun(r:ResultVar)=>(match r with
  |.tmp t=>pure (a.tmps.getD t undef)
  |.cell b T=>do loadVar T (←asAddr (a.tmps.getD b undef)):Sem Value)).run P w=.ok vs w∧vs.length=ps.length∧ps.length=rs.length∧∀(j:Nat) (p:PV) (x:Value),ps[j]?=some p→vs[j]?=some x→dL w E p x
 | [],K,h=>⟨[],[],h,by simp,rfl,rfl,by simp⟩
 |.tmp i::rest,K,h=>by
  obtain⟨ps,vs,hK,jh,hl,Bt,hr⟩:=xQ hk ht rest _ h
  refine⟨_,a.tmps.getD i undef::vs,hK,?_,by simp[hl],by simp[Bt],fun j p x hp hx=>?_⟩
  ·simp only[List.mapM_cons,Sem.run_bind,Sem.run_pure,Result.andThen_ok]
   rw[jh]
   rfl
  ·cases j with
   |zero=>
    simp only[Xs,V1]at hp hx
    subst hp hx
    exact yt ht (.tmp i)
   |succ j=>exact hr j p x (by simpa using hp) (by simpa using hx)
 |.cell i T::rest,K,h=>by
  simp only[Dl]at h
  cases hp:Kv m (t.getD i .un)with
  |none=>rw[hp]at h;unfold rR at h;split at h<;>first|exact h.elim|simp_all
  |some cs=>
   rw[hp]at h
   obtain⟨b,off,hx,hb,hc⟩:=Ni hk (yt ht (.tmp i)) hp
   obtain⟨p,v,hK,Zdo,sU⟩:=Fi h hb hc
   obtain⟨ps,vs,hK,jh,hl,Bt,hr⟩:=xQ hk ht rest _ hK
   simp only[Act.eval]at hx
   refine⟨_,v::vs,hK,?_,by simp[hl],by simp[Bt],fun j p x hp hx=>?_⟩
   ·have ZeM:(asAddr (a.tmps.getD i undef)).run P w=.ok ⟨b,off,none⟩ w:=by rw[hx];rfl
    simp only[List.mapM_cons,Sem.run_bind,ZeM,Sem.run_pure,Result.andThen_ok,Zdo w (Up.rfl' w)]
    rw[jh]
    rfl
   ·cases j with
    |zero=>
     simp only[Xs,V1]at hp hx
     subst hp hx
     exact sU
    |succ j=>exact hr j p x (by simpa using hp) (by simpa using hx)
def Fin(P:Program)(n0:Nat)(rs:Array ResultVar)(r:PV)(m1:Mem)(t:List PV)(m:Mem):Prop:=Dl P rs.toList t m fun ps=>jy n0 [Ei ps] m [r] m1
theorem NO{t:List PV}{a:Act}(hr:rj F t m a w)(h:Fin P F.n0 fn.results r m1 t m):
 ∃v E',(results fn a.tmps).run P w=.ok v w∧Ok F.w0 F.O E' w m1∧(∀b,F.S0 b→E'.S b)∧SBd F.S0 F.P1 F.w0 F.O E'∧(∀l B,l<F.n0→E'.β l=some B→F.β0 l=some B)∧dL w E' r v:=by
 obtain⟨E,hk,xD,u6,Hw,hu0,hd,ht⟩:=hr
 obtain⟨ps,vs,hcut,jh,hl,Bt,hr⟩:=xQ hk ht _ _ h
 have zI:(results fn a.tmps).run P w=.ok (OW vs) w:=by
  unfold results
  rw[Array.mapM_eq_mapM_toList,Sem.run_bind,Sem.run_map]
  refine(congrArg (fun r=>(Result.andThen r fun(a:List Value) w'=>Result.ok a.toArray w').andThen _) jh).trans ?_
  simp only[Result.andThen_ok,Sem.run_pure]
  match vs with
  | []=>simp[OW]
  | [v]=>simp[OW]
  |_::_::_=>simp[OW]
 have hv0:dL w E (Ei ps) (OW vs):=by
  clear jh zI hcut
  match vs,ps,hl with
  | [v],[p],_=>exact hr 0 p v rfl rfl
  | [],[],_=>exact .tu _ _ (by simp) (by simp)
  |v::v'::vs,p::p'::ps,hl=>exact .tu _ _ (by simpa using hl) fun j q x hq hx=>hr j q x hq (by simpa using hx)
 generalize OW vs=v0 at zI hv0
 have h0:rj F [Ei ps] m { tmps:=#[v0],defers:=[]} w:=by
  refine⟨E,hk,xD,u6,Hw,hu0,rfl,rfl,fun i p hp=>?_⟩
  cases i with
  |zero=>
   obtain rfl:Ei ps=p:=by simpa using hp
   exact hv0
  |succ i=>simp at hp
 obtain⟨E',k1,k2,k3,k4,_,_,k5⟩:=rj.T3 hcut rfl h0
 exact⟨_,E',zI,k1,k2,k3,k4,k5.2 0 r rfl⟩
theorem aA{f:FuncId}(hf:P.funcs[f]?=some fn)(hb:fn.body=some c)(hn:fn.ntmps=n){rs:Array ResultVar}(hrs:fn.results=rs){args:List PV}
 (h:∀Q:Exit→List PV→Mem→Prop,(∀t m,Fin P m0.length rs r m1 t m→Q .ret t m)→(∀t m,Fin P m0.length rs r m1 t m→Q .normal t m)→qH P m0.length c Q (args++WA (n-args.length) .ud) m0):iZ P f args m0 r m1:=by
 subst hn hrs
 intro S β w vs ω hk hl hargs
 let F:Fr:=⟨w,nL β,β,m0.length,S,ω⟩
 have hr0:rj F (args++WA (fn.ntmps-args.length) .ud) m0 { tmps:=vs++Xp (fn.ntmps-vs.size) undef,defers:=[]} w:=by
  refine⟨E1 S β m0.length ω,hk,fun b hb=>hb,⟨fun b hb=>.inl hb,fun b q hb=>.inl hb⟩,fun l B hl hB=>hB,fun l hl=>hl,rfl,by simp[hl],fun i p hp=>?_⟩
  rcases Nat.lt_or_ge i args.length with hi|hi
  ·rw[Wd hi]at hp
   obtain⟨x,hx,hr⟩:=hargs i p hp
   have hiv:i<vs.size:=by rw[hl];exact hi
   have e:(vs++Xp (fn.ntmps-vs.size) undef).getD i undef=x:=by
    rw[WQ,Array.getElem?_append_left hiv,hx];rfl
   rw[e];exact hr
  ·rw[List.getElem?_append_right hi]at hp
   have bF:=(VU.1 hp).1
   rw[List.length_replicate]at bF
   rw[List.getElem?_replicate,if_pos bF]at hp
   cases hp
   have e:(vs++Xp (fn.ntmps-vs.size) undef).getD i undef=undef:=by
    rw[WQ,Array.getElem?_append_right (by omega)]
    simp only[Yy]
    split<;>rfl
   rw[e];exact .c .ud
 refine calls_of_wp hf hb (Code.wp_mono ?_ (qU (F:=F) c (fun e t m=>(e=.ret∨e=.normal)∧Fin P m0.length fn.results r m1 t m) _ _ _ w (h _ (fun t m h=>⟨.inl rfl,h⟩) (fun t m h=>⟨.inr rfl,h⟩)) hr0))
 rintro e a w' ⟨t,m,⟨he,sD⟩,hr⟩
 have hd:a.defers=[]:=by obtain⟨_,_,_,_,_,_,hd,_⟩:=hr;exact hd
 obtain⟨v,E',jh,k1,k2,k3,k4,k5⟩:=NO hr sD
 have key:bodyPost P fn (fun e w'=>∃v E',e=.returned v∧Ok w (nL β) E' w' m1∧(∀b,S b→E'.S b)∧(∀b,E'.S b→S b∨w.heap.size≤b∨nL β b)∧((∀l B,l<m0.length→E'.β l=some B→β l=some B)∧∀b q,E'.ω b q→ω b q∨w.heap.size≤b∨nL β b)∧dL w' E' r v) .ret a w':=
  ⟨hd,v,jh,v,E',rfl,k1,k2,k3.1,⟨k4,k3.2⟩,k5⟩
 rcases he with rfl|rfl
 ·exact key
 ·exact key
end
theorem ec{α:Sort _}{a b:α}(h:a=b):a=b:=h
abbrev vi(n:Int):PV:=.v (.int .i64 n)
abbrev v8(n:Int):PV:=.v (.int .u8 n)
abbrev vb(b:Bool):PV:=.v (.bool b)
abbrev vs(s:ByteArray):PV:=.v (.string s)
abbrev aL(n:Int):Int:=IntKind.i64.wrap n
/-! ### The other side: Kk the code ZfC,as_ a function;an answer is none where Go Zgk panic. -/
def cL(b:Bool):Option Unit:=cond b (some ()) none
def aC{α:Type}(xs:List α)(i:Int):Option α:=if 0≤i then xs[i.toNat]? else none
def D2(s:ByteArray)(i:Int):Option Int:=if 0≤i∧i<s.size then some (B9 s i.toNat)else none
def bo(n bytes:Nat):Bool:=decide (n≤1099511627776∧n*bytes≤140737488355328)
def gA(l h n:Int):Bool:=decide (0≤l∧l≤h∧h≤n)
def cD{α:Type}(xs:List α)(l h:Int):List α:=(xs.drop l.toNat).take (h.toNat-l.toNat)
def ZfF(s:ByteArray)(l h:Int):ByteArray:=s.extract l.toNat h.toNat
abbrev bl{σ ο δ:Type}(f:σ→δ)(g:ο→δ):σ⊕ο→δ
 |.inl a=>f a
 |.inr b=>g b
def aD{σ ο:Type}(body:σ→Option (σ⊕ο)):Nat→σ→Option ο
 |0,_=>none
 |n+1,s=>(body s).bind (bl (aD body n) some)
def NN:Nat:=1152921504606846976
section
variable {α β γ δ σ ο:Type}
theorem H0{x:Option α}{r:α}(h:x=some r):x.bind some=some r:=by rw[h];rfl
theorem Hc1{b:Bool}{A B:Option α}{K:α→Option β}{r:β}(h:(cond b A B).bind K=some r)(hb:b=true):A.bind K=some r:=by subst hb;exact h
theorem Hc2{b:Bool}{A B:Option α}{K:α→Option β}{r:β}(h:(cond b A B).bind K=some r)(hb:b=false):B.bind K=some r:=by subst hb;exact h
theorem sx{x:Option α}{F:α→Option β}{K:β→Option γ}{r:γ}(h:(x.bind F).bind K=some r):∃a,x=some a∧(F a).bind K=some r:=by
 cases x with
 |none=>cases h
 |some a=>exact⟨a,rfl,h⟩
theorem AY{b:Bool}{F:Unit→Option β}{K:β→Option γ}{r:γ}(h:((cL b).bind F).bind K=some r):b=true∧(F ()).bind K=some r:=by
 cases b with
 |false=>cases h
 |true=>exact⟨rfl,h⟩
theorem Hlp{x:Option ο}{G:ο→Option β}{K:β→Option γ}{r:γ}(h:(x.bind G).bind K=some r):x.bind (fun o=>(G o).bind K)=some r:=by
 cases x with
 |none=>cases h
 |some a=>exact h
theorem Hrd{body:σ→Option (σ⊕ο)}{s:σ}{K:ο→Option β}{r:β}(h:(aD body (n+1) s).bind K=some r):(body s).bind (bl (fun s'=>(aD body n s').bind K) K)=some r:=by
 unfold aD at h
 cases hb:body s with
 |none=>rw[hb]at h;cases h
 |some o=>
  rw[hb]at h
  cases o with
  |inl s'=>exact h
  |inr o=>exact h
theorem Hno{body:σ→Option (σ⊕ο)}{s:σ}{K:ο→Option β}{r:β}(h:(aD body 0 s).bind K=some r):False:=by cases h
theorem NS{a r:α}(h:some a=some r):a=r:=VV h
end
class CT(P:Program){R:Type}(x:Option R) where
 f:FuncId
 args:List PV
 m0:Mem
 res:R→PV
 mem:R→Mem
 ok:∀{r:R},x=some r→iZ P f args m0 (res r) (mem r)
class bm{σ ο:Type}(body:σ→Option (σ⊕ο)) where
 T:σ→List PV
 M:σ→Mem
class dH{α:Type}(f:α→List PV):Prop where
 h:∀x,∀q∈f x,qE q=true
class rN{α:Type}(f:α→List PV):Prop where
 h:∀x,∀q∈f x,HE q=true
/-! ### The ZfH Po. -/
def U:Nat→List PV→List PV
 |0,l=>l
 |n+1,l=>.un::U n l
theorem KB(l:List PV):U 0 l=l:=ec rfl
theorem Kz(n:Nat)(l:List PV):U (n+1) l=.un::U n l:=ec rfl
theorem ZdL(a b:PV)(as_:List PV):(a::as_).set 0 b=b::as_:=ec rfl
theorem ZdK(a b:PV)(as_:List PV)(n:Nat):(a::as_).set (n+1) b=a::as_.set n b:=ec rfl
theorem Gg(a d:PV)(as_:List PV):(a::as_).getD 0 d=a:=ec rfl
theorem Gf(a d:PV)(as_:List PV)(n:Nat):(a::as_).getD (n+1) d=as_.getD n d:=ec rfl
theorem ZdG{α:Type}(a:α)(as_:List α):(a::as_)[0]?=some a:=ec rfl
theorem ZdF{α:Type}(a:α)(as_:List α)(n:Nat):(a::as_)[n+1]?=as_[n]?:=ec rfl
theorem ZdE{α:Type}(as_:List α)(n:Nat):as_.toArray[n]?=as_[n]?:=ec (by simp)
section
variable {P:Program} {ops:Array Oper} {K:List PV→Mem→Prop} {KD:List LE→List PV→Mem→Prop} {rest:List Oper} {t:List PV} {m:Mem} {d:Option Tmp} {o:Op} {ty:TypeId} {pos:String} {af:Array Edge} {j:Nat} {b:Bool} {KA:PV→Mem→Prop} {KR:PV→Prop} {io:Bool} {wd ν base i:Nat} {g:List LE} {fl:List Nat}
def nxt(P:Program)(ops:Array Oper)(K:List PV→Mem→Prop)(rest:List Oper)(t:List PV)(d:Option Tmp)(p:PV)(m:Mem):Prop:=sa P ops K rest (je t d p) m
def Ia(K:PV→Mem→Prop)(m:Mem)(p:PV):Prop:=K p m
def rgo(P:Program)(ops:Array Oper)(K:List PV→Mem→Prop)(rest:List Oper)(d:Option Tmp)(o:Op)(m:Mem)(t:List PV):Prop:=iW P true 16 m.length o t m (nxt P ops K rest t d)
def pgo(P:Program)(ops:Array Oper)(K:List PV→Mem→Prop)(rest:List Oper)(d:Option Tmp)(m:Mem)(t:List PV):Prop:=sa P ops K rest (je t d .ud) m
def tP(c:Bool)(y n:List PV→Prop)(t:List PV)(i:Nat):Prop:=gate c (y (t.set i (.v (.bool true)))) (n (t.set i (.v (.bool false))))
def gdV(p:PV)(i:Nat)(t:List PV)(b:Bool)(run pass:List PV→Prop):Prop:=
 match p,b with
 |.v (.bool c),true=>tP c run pass t i
 |.v (.bool c),false=>tP c pass run t i
 |.ud,_=>pass t
 |_,_=>False
def gd(d:Option Tmp)(t:List PV)(b:Bool)(run pass:List PV→Prop):Prop:=
 match d with
 |none=>pass t
 |some d=>gdV (t.getD d .un) d t b run pass
theorem BA:nxt P ops K rest t d p m=sa P ops K rest (je t d p) m:=ec rfl
theorem Bn:Ia KA m p=KA p m:=ec rfl
theorem Vp:rgo P ops K rest d o m t=iW P true 16 m.length o t m (nxt P ops K rest t d):=ec rfl
theorem Vf:pgo P ops K rest d m t=sa P ops K rest (je t d .ud) m:=ec rfl
theorem Q6{y n:List PV→Prop}{i:Nat}:tP true y n t i=y (t.set i (.v (.bool true))):=by simp[tP,gate]
theorem Q5{y n:List PV→Prop}{i:Nat}:tP false y n t i=n (t.set i (.v (.bool false))):=by simp[tP,gate]
theorem vp{c:Bool}{y n:List PV→Prop}{i:Nat}(h1:c=true→y (t.set i (.v (.bool true))))(h2:c=false→n (t.set i (.v (.bool false)))):tP c y n t i:=⟨h1,h2⟩
theorem Sq:sa P ops K [] t m=K t m:=ec rfl
theorem Vh:sa P ops K (⟨d,o,ty,pos,af,none⟩::rest) t m=iW P true 16 m.length o t m (nxt P ops K rest t d):=ec rfl
theorem Vg:sa P ops K (⟨d,o,ty,pos,af,some (j,b)⟩::rest) t m=gd ((ops[j]?).bind (·.dst)) t b (rgo P ops K rest d o m) (pgo P ops K rest d m):=by
 cases h:(ops[j]?).bind (·.dst)with
 |none=>simp only[sa,h,gd,pgo]
 |some d'=>
  simp only[sa,h,gd]
  generalize t.getD d' .un=p
  cases p with
  |v x=>cases x<;>cases b<;>rfl
  |_=>cases b<;>rfl
/-! ZfK the order is drawn. -/
def nxd(P:Program)(wd base:Nat)(fl:List Nat)(ops:Array Oper)(K:List LE→List PV→Mem→Prop)(i:Nat)(rest:List Oper)(g:List LE)(t:List PV)(d:Option Tmp)(p:PV)(m:Mem):Prop:=j2 P wd base fl ops K i rest g (je t d p) m
def rgd(P:Program)(wd base:Nat)(fl:List Nat)(ops:Array Oper)(K:List LE→List PV→Mem→Prop)(i:Nat)(rest:List Oper)(g:List LE)(oo:Oper)(m:Mem)(t:List PV):Prop:=
 iW P false wd (base+wd*i) oo.op t m (nxd P wd base fl ops K (i+1) rest (g++[Ld ops oo t wd (base+wd*i)]) t oo.dst)
def pgd(P:Program)(wd base:Nat)(fl:List Nat)(ops:Array Oper)(K:List LE→List PV→Mem→Prop)(i:Nat)(rest:List Oper)(g:List LE)(oo:Oper)(m:Mem)(t:List PV):Prop:=j2 P wd base fl ops K (i+1) rest (g++[le0 ops oo]) (je t oo.dst .ud) m
def nxe(P:Program)(wd base:Nat)(fl:List Nat)(ops:Array Oper)(K:List LE→List PV→Mem→Prop)(i:Nat)(rest:List Oper)(g:List LE)(oo:Oper)(ν:Nat)(t:List PV)(ρ:List Nat)(p:PV)(m:Mem):Prop:=j2 P wd base fl ops K i rest (g++[UP ops oo ρ wd ν]) (je t oo.dst p) m
def rge(P:Program)(wd base:Nat)(fl:List Nat)(ops:Array Oper)(K:List LE→List PV→Mem→Prop)(i:Nat)(rest:List Oper)(g:List LE)(oo:Oper)(m:Mem)(t:List PV):Prop:=
 if Lc fl i=true then LN P wd (base+wd*i) oo.op t m (nxe P wd base fl ops K (i+1) rest g oo (base+wd*i) t)else rgd P wd base fl ops K i rest g oo m t
theorem Bz{ν:Nat}{ρ:List Nat}:nxe P wd base fl ops KD i rest g oo ν t ρ p m=j2 P wd base fl ops KD i rest (g++[UP ops oo ρ wd ν]) (je t oo.dst p) m:=ec rfl
theorem Vo:rge P wd base fl ops KD i rest g oo m t=if Lc fl i=true then LN P wd (base+wd*i) oo.op t m (nxe P wd base fl ops KD (i+1) rest g oo (base+wd*i) t)else rgd P wd base fl ops KD i rest g oo m t:=ec rfl
theorem RD{i:Nat}:Lc [] i=false:=ec rfl
theorem Oz{a i:Nat}{l:List Nat}:Lc (a::l) i=if a=i then true else Lc l i:=ec rfl
theorem O9{wd ν:Nat}{f:FuncId}{xs:List Operand}{K:List Nat→PV→Mem→Prop}:LN P wd ν (.call ⟨.value (.func f),xs.toArray,Ts⟩) t m K=(xH P f∧pIO P wd ν f (xs.map (fX t)) m K):=ec rfl
theorem By:nxd P wd base fl ops KD i rest g t d p m=j2 P wd base fl ops KD i rest g (je t d p) m:=ec rfl
theorem Pa:j2 P wd base fl ops KD i [] g t m=KD g t m:=by unfold j2;rfl
theorem Sp:j2 P wd base fl ops KD i (⟨d,o,ty,pos,af,none⟩::rest) g t m=rge P wd base fl ops KD i rest g ⟨d,o,ty,pos,af,none⟩ m t:=by rw[j2];rfl
theorem Sn:j2 P wd base fl ops KD i (⟨d,o,ty,pos,af,some (j,b)⟩::rest) g t m=gd ((ops[j]?).bind (·.dst)) t b (rgd P wd base fl ops KD i rest g ⟨d,o,ty,pos,af,some (j,b)⟩ m) (pgd P wd base fl ops KD i rest g ⟨d,o,ty,pos,af,some (j,b)⟩ m):=by
 rw[j2]
 cases h:(ops[j]?).bind (·.dst)with
 |none=>simp only[h,gd,pgd]
 |some d'=>
  simp only[h,gd]
  generalize t.getD d' .un=p
  cases p with
  |v x=>cases x<;>cases b<;>rfl
  |_=>cases b<;>rfl
theorem Vn:rgd P wd base fl ops KD i rest g oo m t=iW P false wd (base+wd*i) oo.op t m (nxd P wd base fl ops KD (i+1) rest (g++[Ld ops oo t wd (base+wd*i)]) t oo.dst):=ec rfl
theorem Ve:pgd P wd base fl ops KD i rest g oo m t=j2 P wd base fl ops KD (i+1) rest (g++[le0 ops oo]) (je t oo.dst .ud) m:=ec rfl
theorem Uc{i:Nat}{run pass:List PV→Prop}:gd (some i) t b run pass=gdV (t.getD i .un) i t b run pass:=ec rfl
theorem Ub{run pass:List PV→Prop}:gd none t b run pass=pass t:=ec rfl
theorem ZaY{i:Nat}{c:Bool}{run pass:List PV→Prop}:gdV (.v (.bool c)) i t true run pass=tP c run pass t i:=ec rfl
theorem ZaX{i:Nat}{c:Bool}{run pass:List PV→Prop}:gdV (.v (.bool c)) i t false run pass=tP c pass run t i:=ec rfl
theorem ZaZ{i:Nat}{run pass:List PV→Prop}:gdV .ud i t b run pass=pass t:=by cases b<;>rfl
theorem Pf{i:Nat}:je t (some i) p=t.set i p:=ec rfl
theorem Pe:je t none p=t:=ec rfl
theorem Br{i:Nat}:fX t (.tmp i)=t.getD i .un:=ec rfl
theorem T7{k:IntKind}{n:Int}:fX t (.const (.int k n))=.v (.int k n):=ec rfl
theorem yr{c:Bool}:fX t (.const (.bool c))=.v (.bool c):=ec rfl
theorem T9{c:ByteArray}:fX t (.const (.string c))=.v (.string c):=ec rfl
theorem ZaT{n c:Nat}:fX t (.const (.slice a n c))=.v (.slice a n c):=ec rfl
theorem T8:fX t (.const (.pointer a))=.v (.pointer a):=ec rfl
theorem QZ{f:FuncId}:fX t (.func f)=.v (.func (.func f) #[] #[]):=ec rfl
theorem O6:iW P io wd ν (.move x) t m KA=KA (fX t x) m:=ec rfl
theorem JH:iW P io wd ν (.assign x) t m KA=KA (fX t x) m:=ec rfl
def Fj(c x y:PV)(K:PV→Prop):Prop:=match c with
 |.v (.bool b)=>K (if b then x else y)
 |_=>False
theorem U5{x y:PV}:Fj (.v (.bool true)) x y KR=KR x:=ec rfl
theorem U4{x y:PV}:Fj (.v (.bool false)) x y KR=KR y:=ec rfl
theorem O7{c x y:Operand}:iW P io wd ν (.pick c x y) t m KA=Fj (fX t c) (fX t x) (fX t y) (Ia KA m):=ec rfl
theorem O5:iW P io wd ν (.load T x) t m KA=rR P T (Kv m (fX t x)) (Ia KA m):=ec rfl
theorem Eo:iW P io wd ν (.nilCheck x) t m KA=Ek m (fX t x) (Ia KA m):=ec rfl
theorem LG{op:BinOp}:iW P io wd ν (.binOp op T x y T') t m KA=Jt P op T (fX t x) (fX t y) (Ia KA m):=ec rfl
theorem O8{op:UnOp}:iW P io wd ν (.unOp op T x) t m KA=pUn op (fX t x) (Ia KA m):=ec rfl
theorem GZ:iW P io wd ν (.convert T T' x) t m KA=rK P m T T' (fX t x) (Ia KA m):=ec rfl
theorem LL{lo hi:Option Operand}:iW P io wd ν (.slice T x lo hi none) t m KA=kA P m T (fX t x) (lo.map (fX t)) (hi.map (fX t)) (Ia KA m):=ec rfl
theorem C4{f:Nat}:iW P io wd ν (.fieldAddr T x f) t m KA=kz P m T (fX t x) f (Ia KA m):=ec rfl
theorem LI{f:Nat}:iW P io wd ν (.field T x f) t m KA=vJ P T (fX t x) f (Ia KA m):=ec rfl
theorem C5:iW P io wd ν (.indexAddr T x y) t m KA=cQ P m T (fX t x) (fX t y) (Ia KA m):=ec rfl
theorem LJ:iW P io wd ν (.index T x y) t m KA=sJ P T (fX t x) (fX t y) (Ia KA m):=ec rfl
theorem G0{i:Nat}:iW P io wd ν (.extract x i) t m KA=Jw i (fX t x) (Ia KA m):=ec rfl
theorem LH{ps:List (Nat×Operand)}:iW P io wd ν (.build T ps.toArray) t m KA=vI P T (ps.map fun q=>(q.1,fX t q.2)) (Ia KA m):=ec rfl
theorem En{f:FuncId}{cs:List Operand}:iW P io wd ν (.makeFunc (.func f) #[] cs.toArray) t m KA=KA (.fn f (cs.map (fX t))) m:=ec rfl
theorem Sj:iW P io wd ν (.call ⟨.builtin .len,#[x],#[T]⟩) t m KA=wZ P m T (fX t x) (Ia KA m):=ec rfl
theorem Sl:iW P io wd ν (.call ⟨.builtin .min,#[x,y],#[T,T']⟩) t m KA=qw false [fX t x,fX t y] (Ia KA m):=ec rfl
theorem Sk:iW P io wd ν (.call ⟨.builtin .max,#[x,y],#[T,T']⟩) t m KA=qw true [fX t x,fX t y] (Ia KA m):=ec rfl
theorem LF:iW P io wd ν (.alloc T) t m KA=zU ν m T (pz P T) KA:=ec rfl
theorem Sh:iW P io wd ν (.box T x) t m KA=zU ν m T (pc (fX t x)) KA:=ec rfl
theorem Be{ps:List (Nat×Operand)}:iW P io wd ν (.buildSlice T n ps.toArray) t m KA=mR P ν m T n (ps.map fun q=>(q.1,fX t q.2)) KA:=ec rfl
theorem C6:iW P io wd ν (.makeSlice T x y) t m KA=vK P ν m T (fX t x) (fX t y) KA:=ec rfl
theorem LM:iW P io wd ν (.store T x y) t m KA=vL P m T (fX t x) (fX t y) KA:=ec rfl
theorem JG:iW P io wd ν (.call ⟨.builtin .append,#[x,y],#[T,T]⟩) t m KA=fZ P ν m T (fX t x) (fX t y) KA:=by
 have:iW P io wd ν (.call ⟨.builtin .append,#[x,y],#[T,T]⟩) t m KA=(T=T∧fZ P ν m T (fX t x) (fX t y) KA):=rfl
 rw[this];simp
theorem O4{f:FuncId}{xs:List Operand}:iW P io wd ν (.call ⟨.value (.func f),xs.toArray,Ts⟩) t m KA=(xH P f∧pT P io wd ν f (xs.map (fX t)) m KA):=ec rfl
def U3(P:Program)(io:Bool)(wd ν:Nat)(p:PV)(ps:List PV)(m:Mem)(K:PV→Mem→Prop):Prop:=match p with
 |.fn f cs=>(∀c∈cs,qQ c=true)∧xH P f∧pT P io wd ν f (ps++cs) m K
 |_=>False
theorem Si{i:Nat}{xs:List Operand}:iW P io wd ν (.call ⟨.value (.tmp i),xs.toArray,Ts⟩) t m KA=U3 P io wd ν (t.getD i .un) (xs.map (fX t)) m KA:=ec rfl
theorem OX:GH (some v) KR=KR (.v v):=ec rfl
theorem ZbI{l i o:Nat}:Kv m (.be l i o)=((look m l).bind fun mb=>(mb.es[i]?).map (·.drop o)):=by
 unfold look Kv
 cases h:m[l]? with
 |none=>simp[h]
 |some x=>cases x<;>simp[h]
theorem tw{x:Option MB}{m:Mem}:look (x::m) 0=x:=by unfold look;cases x<;>rfl
theorem tv{x:Option MB}{m:Mem}:look (x::m) (n+1)=look m n:=ec rfl
theorem Zbw{x:Option MB}{m:Mem}:nV (x::m) 0 mb=some mb::m:=by simp[nV]
theorem Zbv{x:Option MB}{m:Mem}:nV (x::m) (n+1) mb=x::nV m n mb:=by
 unfold nV
 rw[show n+1+1-(x::m).length=n+1-m.length by simp]
 rfl
theorem UT:nV [] 0 mb=[some mb]:=ec rfl
theorem UU:nV [] (n+1) mb=none::nV [] n mb:=by
 unfold nV
 simp[List.replicate_succ]
theorem Zby{α:Type}(a b:α)(as_:List α):(a::as_).set 0 b=b::as_:=ec rfl
theorem Zbx{α:Type}(a b:α)(as_:List α)(n:Nat):(a::as_).set (n+1) b=a::as_.set n b:=ec rfl
theorem ZbS(c q:PV)(cs qs:List PV):w8 (c::cs) 0 (q::qs)=q::w8 cs 0 qs:=by simp[w8]
theorem ZbQ(cs:List PV):w8 cs 0 []=cs:=by simp[w8]
theorem ZbR(c:PV)(cs qs:List PV)(n:Nat):w8 (c::cs) (n+1) qs=c::w8 cs n qs:=by
 simp only[w8,List.take_succ_cons,List.cons_append]
 rw[show n+1+qs.length=(n+qs.length)+1 by omega,List.drop_succ_cons]
theorem ZbH{α:Type}(bs:List α):List.append [] bs=bs:=ec rfl
theorem ZbG{α:Type}(a:α)(as_ bs:List α):List.append (a::as_) bs=a::List.append as_ bs:=ec rfl
theorem Dx{ν i:Nat}:sig [] ν i=ν+i:=by simp[sig]
theorem Dz{a ν:Nat}{ρ:List Nat}:sig (a::ρ) ν 0=a:=ec rfl
theorem Dy{a ν i:Nat}{ρ:List Nat}:sig (a::ρ) ν (i+1)=sig ρ ν i:=by
 unfold sig
 simp only[VX,Nat.add_lt_add_iff_right,List.getD_cons_succ,Nat.add_sub_add_right]
theorem Fs{α:Type}{f:α→List PV}[hf:dH f]{σ:Nat→Nat}{xs:List α}:rT σ (xs.map f)=xs.map f:=by
 unfold rT
 rw[List.map_map]
 apply WZ
 intro x _
 have h1:=hf.h x
 show(f x).map (qz σ)=f x
 generalize f x=cs at h1
 induction cs with
 |nil=>rfl
 |cons c cs ih=>
  rw[List.map_cons,ih fun q hq=>h1 q (Wi _ hq)]
  congr 1
  have hc:=h1 c Wp
  have k1:∀{d:PV},qn d=true→sN σ d=d:=fun {d} hd=>by cases d<;>simp_all[qn,sN]
  cases c with
  |fn g ds=>
   simp only[qE,V5]at hc
   simp only[qz]
   congr 1
   have e:ds.map (sN σ)=ds.map id:=WZ fun d hd=>k1 (hc d hd)
   rw[e,X2]
  |_=>simp_all[qE,qn,qz,sN]
theorem Pm{σ:Nat→Nat}:rT σ []=[]:=ec rfl
theorem LV{σ:Nat→Nat}{c:List PV}{cs:List (List PV)}:rT σ (c::cs)=c.map (qz σ)::rT σ cs:=ec rfl
theorem yZ{α:Type}{f:α→List PV}[hf:dH f]{xs:List α}:Vu (xs.map f):=by
 intro cs qF q hq
 obtain⟨x,_,rfl⟩:=WS.1 qF
 exact hf.h x q hq
theorem pt{α:Type}{f:α→List PV}[hf:dH f]{xs:List α}:(∀cs∈xs.map f,∀q∈cs,qE q=true)=True:=by
 simp only[eq_iff_iff,iff_true];exact yZ
theorem tQ{c:PV}(h:qE c=true):cE false c:=by
 cases c with
 |fn f cs=>
  simp only[qE,V5]at h
  exact⟨rfl,fun d hd=>by have:=h d hd;cases d<;>simp_all[qn,qQ]⟩
 |_=>intro h;cases h
theorem IS{c:PV}(h:HE c=true):cE true c:=by
 cases c<;>first|exact fun _=>h|simp[HE]at h
theorem Oi{α:Type}{f:α→List PV}[hf:dH f]{xs:List α}:(∀cs∈xs.map f,∀p∈cs,cE false p)=True:=by
 simp only[eq_iff_iff,iff_true]
 intro cs qF q hq
 obtain⟨x,_,rfl⟩:=WS.1 qF
 exact tQ (hf.h x q hq)
theorem Oj{α:Type}{f:α→List PV}[hf:rN f]{xs:List α}:(∀cs∈xs.map f,∀p∈cs,cE true p)=True:=by
 simp only[eq_iff_iff,iff_true]
 intro cs qF q hq
 obtain⟨x,_,rfl⟩:=WS.1 qF
 exact IS (hf.h x q hq)
theorem nG{A:MB→Prop}:live m l A=(match look m l with
 |some mb=>A mb
 |none=>False):=mh A
theorem oJ{α β:Type}(f:α→β)(xs:List α)(n:Nat):(xs.map f).drop n=(xs.drop n).map f:=List.map_drop.symm
theorem oU{α β:Type}(f:α→β)(xs:List α)(n:Nat):(xs.map f).take n=(xs.take n).map f:=List.map_take.symm
theorem ZaJ{α β:Type}(f:α→β)(xs ys:List α):xs.map f++ys.map f=(xs++ys).map f:=(List.map_append).symm
end
section
variable {P:Program} {n0:Nat} {Q:Exit→List PV→Mem→Prop} {t t':List PV} {m m':Mem} {K:List PV→Mem→Prop} {KR:PV→Prop} {KA:PV→Mem→Prop}
theorem jf:rB K Q .normal t m=K t m:=rfl
theorem uL{i:Nat}:rB K Q (.exit i) t m=Q (.exit i) t m:=rfl
theorem wQ:rB K Q .ret t m=Q .ret t m:=rfl
theorem gC:vh id Q .normal t m=Q .normal t m:=rfl
theorem sY{id i:Nat}:vh id Q (.exit i) t m=if i=id then Q .normal t m else Q (.exit i) t m:=rfl
theorem ur:vh id Q .ret t m=Q .ret t m:=rfl
theorem Hc{x y:Code}(h:∀K:List PV→Mem→Prop,(∀t m,qH P n0 y Q t m→K t m)→qH P n0 x (rB K Q) t m):qH P n0 (.seq x y) Q t m:=
 h (fun t m=>qH P n0 y Q t m) (fun _ _ h=>h)
theorem zZ(h:qH P n0 c (vh id Q) t m):qH P n0 (.block id c) Q t m:=h
def Iq(p:PV)(A B:Prop):Prop:=match p with
 |.v (.bool b)=>(b=true→A)∧(b=false→B)
 |_=>False
theorem Aa{c:Operand}{x y:Code}(h:Iq (fX t c) (qH P n0 x Q t m) (qH P n0 y Q t m)):qH P n0 (.cond c x y) Q t m:=by
 unfold Iq at h
 split at h
 ·rename_i b hb
  simp only[qH,hb]
  cases b with
  |true=>simpa using h.1 rfl
  |false=>simpa using h.2 rfl
 ·exact h.elim
theorem Ci{A B:Prop}(h:A):Iq (.v (.bool true)) A B:=⟨fun _=>h,fun h=>by cases h⟩
theorem Ch{A B:Prop}(h:B):Iq (.v (.bool false)) A B:=⟨fun h=>(by cases h),fun _=>h⟩
theorem vo{b:Bool}{A B:Prop}(h1:b=true→A)(h2:b=false→B):Iq (.v (.bool b)) A B:=⟨h1,h2⟩
theorem Dh(h:Q .normal t m):qH P n0 .skip Q t m:=h
theorem Df{i:Nat}(h:Q (.exit i) t m):qH P n0 (.exit i) Q t m:=h
theorem Ha(h:Q .ret t m):qH P n0 .ret Q t m:=h
theorem xP{ops:List Oper}(h:sa P ops.toArray (Q .normal) ops t m):qH P n0 (.region id ops.toArray false) Q t m:=.inl h
def Oa(ops:List Oper)(K:List PV→Mem→Prop)(g:List LE)(t:List PV)(m:Mem):Prop:=Ik ops g=true∧K t m
theorem Dd{ops:List Oper}(h1:P.follows .mixedOrders=true)(h:j2 P 4 m.length [] ops.toArray (Oa ops (Q .normal)) 0 ops [] t m):qH P n0 (.region id ops.toArray true) Q t m:=.inl ⟨h1,4,[],by decide,h⟩
theorem Ph{id wd:Nat}{fl:List Nat}{ops:List Oper}(I5:decide (0<wd)=true)(h1:P.follows .mixedOrders=true)(h:j2 P wd m.length fl ops.toArray (Oa ops (Q .normal)) 0 ops [] t m):qH P n0 (.region id ops.toArray true) Q t m:=.inl ⟨h1,wd,fl,of_decide_eq_true I5,h⟩
theorem xr{ops:List Oper}{g:List LE}(h1:Ik ops g=true)(h2:K t m):Oa ops K g t m:=⟨h1,h2⟩
theorem Ab{σ ο R:Type}{body:σ→Option (σ⊕ο)}[E:bm body]{N:Nat}{s0:σ}{RI:ο→Option R}{r:R}(H:(aD body N s0).bind RI=some r)(hcut:jy n0 t m (E.T s0) (E.M s0))
 (K5:∀n s,(aD body (n+1) s).bind RI=some r→∀K:List PV→Mem→Prop,(∀s' t m,(aD body n s').bind RI=some r→jy n0 t m (E.T s') (E.M s')→K t m)→qH P n0 c (rB K Q) (E.T s) (E.M s)):qH P n0 (.loop c) Q t m:=by
 refine⟨fun n t m=>∃s,(aD body n s).bind RI=some r∧t=E.T s∧m=E.M s,N,E.T s0,E.M s0,hcut,⟨s0,H,rfl,rfl⟩,?_⟩
 rintro n t m ⟨s,hI,rfl,rfl⟩
 cases n with
 |zero=>exact(Hno hI).elim
 |succ n=>exact K5 n s hI (fun t m=>∃k t' m',k<n+1∧jy n0 t m t' m'∧∃s,(aD body k s).bind RI=some r∧t'=E.T s∧m'=E.M s) (fun s' t m h hc=>⟨n,_,_,by omega,hc,s',h,rfl,rfl⟩)
/-! Zce. -/
def ga(P:Program)(T:TypeId):Nat:=match P.underlying T with
 |some (.slice e)=>P.cellsOf e
 |_=>0
theorem tK(h:0<ga P T):∃e,P.underlying T=some (.slice e)∧ga P T=P.cellsOf e:=by
 unfold ga at *
 split at h
 ·rename_i e he;exact⟨e,he,rfl⟩
 ·omega
theorem iH{α:Type}{xs:List α}{i:Int}{x:α}(h:aC xs i=some x):0≤i∧xs[i.toNat]?=some x:=by
 unfold aC at h
 split at h
 ·exact⟨by assumption,h⟩
 ·cases h
theorem Gh{α:Type}{xs:List α}{i:Int}{x:α}(h:aC xs i=some x):0≤i∧i<xs.length∧xs[i.toNat]?=some x:=by
 obtain⟨h1,h2⟩:=iH h
 have:=(VU.1 h2).1
 exact⟨h1,by omega,h2⟩
theorem K8{α:Type}{f:α→List PV}{xs:List α}{x:α}{i:Int}{k:IntKind}(h:aC xs i=some x)(hp:0<ga P T)(hc:(f x).length=ga P T)(hK:KR (.rp (f x))):cQ P m T (.sl (xs.map f)) (.v (.int k i)) KR:=by
 obtain⟨h1,h2,h3⟩:=Gh h
 obtain⟨e,hu,he⟩:=tK hp
 rw[he]at hp hc
 have hd:(xs.map f).getD i.toNat []=f x:=by simp[W0,h3]
 simp only[cQ,hu,Wg]
 rw[hd]
 exact⟨h1,h2,hp,hc,hK⟩
theorem Zbr{α:Type}{f:α→List PV}{xs:List α}{x:α}{T':TK}{i:Int}{k:IntKind}(h:aC xs i=some x)(hm:look m l=some ⟨T',k',xs.map f⟩)(hp:0<ga P T)(hk:k'=ga P T)(hK:KR (.be l i.toNat 0)):cQ P m T (.ms l) (.v (.int k i)) KR:=by
 obtain⟨h1,h2,h3⟩:=Gh h
 obtain⟨e,hu,he⟩:=tK hp
 rw[he]at hk
 simp only[cQ,hu,mh,hm,Wg]
 exact⟨h1,h2,hk,hK⟩
theorem Gv{i c:Int}{k:IntKind}(h:D2 s i=some c)(hu:P.underlying T=some .string)(hK:KR (.v (.int .u8 c))):sJ P T (.v (.string s)) (.v (.int k i)) KR:=by
 unfold D2 at h
 split at h
 ·rename_i hi
  cases h
  simp only[sJ,hu]
  exact⟨hi.1,hi.2,hK⟩
 ·cases h
theorem rJ{c:Prop}[Decidable c](hc:c)(h:KR (.v v)):GH (if c then some v else none) KR:=by rw[if_pos hc];exact h
theorem DA{α:Type}{f:α→List PV}{xs:List α}{l h:Int}(ik:gA l h xs.length=true)(PS:GL lo 0=some l)(hhi:GL hi xs.length=some h)(hp:0<ga P T)(hf:∀x,(f x).length=ga P T)(hK:KR (.sl ((cD xs l h).map f))):kA P m T (.sl (xs.map f)) lo hi KR:=by
 obtain⟨e,hu,he⟩:=tK hp
 rw[he]at hp hf
 have pd:=of_decide_eq_true ik
 simp only[kA,hu,Wg,PS,hhi]
 refine⟨pd.1,pd.2.1,pd.2.2,hp,fun cs qF=>?_,?_⟩
 ·obtain⟨x,_,rfl⟩:=WS.1 qF
  exact hf x
 ·rw[oJ,oU];exact hK
theorem Ak{l h:Int}(ik:gA l h s.size=true)(PS:GL lo 0=some l)(hhi:GL hi s.size=some h)(hu:P.underlying T=some .string)(hK:KR (.v (.string (ZfF s l h)))):kA P m T (.v (.string s)) lo hi KR:=by
 have pd:=of_decide_eq_true ik
 simp only[kA,hu,PS,hhi]
 exact⟨pd.1,pd.2.1,pd.2.2,hK⟩
/-! Calls. -/
theorem zw{f:FuncId}{io:Bool}{wd ν:Nat}(hs:rU m ps (fun qs=>iZ P f qs [] r m1))(hw:m1.length≤wd)(hm:∀mb,some mb∈m1→∀cs∈mb.es,∀p∈cs,cE true p)(hg:ln true r)(hK:KA (Ad (sig [] ν) r) (iX (sig [] ν) ν m1 m)):pT P io wd ν f ps m KA:=
 .inl ⟨r,m1,hs,hw,hm,hg,hK⟩
theorem gq(h:qE p=true):cE false p∧rI 0 p=true:=by
 refine⟨tQ h,?_⟩
 cases p with
 |fn f cs=>
  simp only[qE,V5]at h
  simp only[rI,V5]
  intro c hc
  have:=h c hc
  cases c<;>simp_all[qn,sV]
 |_=>simp_all[qE,qn,rI,sV]
theorem qY{σ:Nat→Nat}(h:qE p=true):qz σ p=p:=by
 have k1:∀{d:PV},qn d=true→sN σ d=d:=fun {d} hd=>by cases d<;>simp_all[qn,sN]
 cases p with
 |fn g ds=>
  simp only[qE,V5]at h
  simp only[qz]
  congr 1
  have e:ds.map (sN σ)=ds.map id:=WZ fun d hd=>k1 (h d hd)
  rw[e,X2]
 |_=>simp_all[qE,qn,qz,sN]
theorem yF{σ:Nat→Nat}(h:CL p=true):uF σ p=p∧kb false p∧yR 0 p=true:=by
 cases p with
 |ag cs=>
  simp only[CL,V5]at h
  refine⟨?_,fun c hc=>(gq (h c hc)).1,?_⟩
  ·simp only[uF]
   have e:cs.map (qz σ)=cs.map id:=WZ fun d hd=>qY (h d hd)
   rw[e,X2]
  ·simp only[yR,V5];exact fun c hc=>(gq (h c hc)).2
 |tu vs=>simp[CL]at h
 |v x=>
  have h':qE (.v x)=true:=h
  exact⟨qY (σ:=σ) h',(gq h').1,(gq h').2⟩
 |ud=>
  have h':qE (.ud)=true:=h
  exact⟨qY (σ:=σ) h',(gq h').1,(gq h').2⟩
 |un=>
  have h':qE (.un)=true:=h
  exact⟨qY (σ:=σ) h',(gq h').1,(gq h').2⟩
 |sl es=>
  have h':qE (.sl es)=true:=h
  exact⟨qY (σ:=σ) h',(gq h').1,(gq h').2⟩
 |rp cs=>
  have h':qE (.rp cs)=true:=h
  exact⟨qY (σ:=σ) h',(gq h').1,(gq h').2⟩
 |ms l=>
  have h':qE (.ms l)=true:=h
  exact⟨qY (σ:=σ) h',(gq h').1,(gq h').2⟩
 |ss l a b=>
  have h':qE (.ss l a b)=true:=h
  exact⟨qY (σ:=σ) h',(gq h').1,(gq h').2⟩
 |be l i o=>
  have h':qE (.be l i o)=true:=h
  exact⟨qY (σ:=σ) h',(gq h').1,(gq h').2⟩
 |fn f cs=>
  have h':qE (.fn f cs)=true:=h
  exact⟨qY (σ:=σ) h',(gq h').1,(gq h').2⟩
theorem sk{f:FuncId}{io:Bool}{wd ν:Nat}(hs:iZ P f ps [] r m1)(hp:∀p∈ps,CL p=true)(hw:m1.length≤wd)(hm:∀mb,some mb∈m1→∀cs∈mb.es,∀p∈cs,cE false p)(hg:ln false r)(hK:KA (Ad (sig [] ν) r) (iX (sig [] ν) ν m1 m)):pT P io wd ν f ps m KA:=by
 refine .inr ⟨[],[],ps,r,m1,.inr rfl,hs,WV _,by simpa using hw,?_,fun q hq=>⟨(yF (σ:=id) (hp q hq)).2.1,(yF (σ:=id) (hp q hq)).2.2⟩,List.nodup_nil,trivial,hm,hg,by simpa[kC]using hK⟩
 have:ps.map (uF (sig [] ν))=ps.map id:=WZ fun p h=>(yF (hp p h)).1
 rw[this,X2]
/-! ZdU. -/
theorem ZaK{α:Type}{f:α→List PV}{xs ys:List α}{ν l e k:Nat}{x:PV}(ik:bo (xs.length+ys.length) (P.bytesOf e)=true)(hu:P.underlying T=some (.slice e))(hz:pz P e=some zc)(xE:px m x=some (ys.map f))(hl:look m l=some ⟨e,k,xs.map f⟩)
 (uZ:zc.length=P.cellsOf e) (hp:0<P.cellsOf e) (hf:∀x,(f x).length=P.cellsOf e) (hk:k=P.cellsOf e) (hK:KA (.ms ν) (nV (m.set l none) ν ⟨e,k,(xs++ys).map f⟩)):fZ P ν m T (.ms l) x KA:=by
 subst hk
 have pd:=of_decide_eq_true ik
 simp only[fZ,hu,hz,xE,mh,hl,Wg]
 refine⟨uZ,hp,fun cs qF=>?_,rfl,trivial,pd.1,pd.2,?_⟩
 ·obtain⟨x,_,rfl⟩:=WS.1 qF
  exact hf x
 ·rw[ZaJ];exact hK
theorem ZaL{α:Type}{f:α→List PV}{ys:List α}{ν e:Nat}{x:PV}(ik:bo ys.length (P.bytesOf e)=true)(hu:P.underlying T=some (.slice e))(hz:pz P e=some zc)(xE:px m x=some (ys.map f))
 (uZ:zc.length=P.cellsOf e) (hp:0<P.cellsOf e) (hf:∀x,(f x).length=P.cellsOf e) (hK:KA (.ms ν) (nV m ν ⟨e,P.cellsOf e,ys.map f⟩)):fZ P ν m T (.v (.slice none 0 0)) x KA:=by
 have pd:=of_decide_eq_true ik
 simp only[fZ,hu,hz,xE,Wg]
 refine⟨uZ,hp,fun cs qF=>?_,pd.1,pd.2,hK⟩
 obtain⟨x,_,rfl⟩:=WS.1 qF
 exact hf x
/-! jy. -/
theorem ID{ρ:Nat→Option Nat}:oI ρ m m' [] []:=trivial
theorem MC{ρ:Nat→Option Nat}{ps rs:List PV}(h:oI ρ m m' ps rs):oI ρ m m' (p::ps) (.un::rs):=⟨.a (.c (.un p)),h⟩
theorem QP{ρ:Nat→Option Nat}{ps rs:List PV}(hc:DY ρ m m' p r)(h:oI ρ m m' ps rs):oI ρ m m' (p::ps) (r::rs):=⟨hc,h⟩
theorem Gb{ρ:Nat→Option Nat}(h:qE p=true):DY ρ m m' p p:=.a (.c (.c p h))
theorem QQ{ρ:Nat→Option Nat}(h:oH ρ m m' p r):DY ρ m m' p r:=.a (.c h)
theorem MD{ρ:Nat→Option Nat}(h:rX ρ m m' cs ds):DY ρ m m' (.ag cs) (.ag ds):=.a (.ag cs ds h)
theorem Ms{ρ:Nat→Option Nat}(h:rX ρ m m' cs ds):FT ρ m m' (.ag cs) (.ag ds):=.ag cs ds h
theorem QA{ρ:Nat→Option Nat}(h:oH ρ m m' p r):FT ρ m m' p r:=.c h
theorem ME{ρ:Nat→Option Nat}(h:Cj ρ m m' cs ds):DY ρ m m' (.tu cs) (.tu ds):=.tu cs ds h
theorem EE{ρ:Nat→Option Nat}:Cj ρ m m' [] []:=trivial
theorem Mt{ρ:Nat→Option Nat}{ps rs:List PV}(hc:FT ρ m m' p r)(h:Cj ρ m m' ps rs):Cj ρ m m' (p::ps) (r::rs):=⟨hc,h⟩
theorem IB{ρ:Nat→Option Nat}:rX ρ m m' [] []:=trivial
theorem QO{ρ:Nat→Option Nat}{ps rs:List PV}(hc:oH ρ m m' p r)(h:rX ρ m m' ps rs):rX ρ m m' (p::ps) (r::rs):=⟨hc,h⟩
def cT(rs:List (Option Nat))(l:Nat):Option Nat:=(rs[l]?).join
theorem SA{x:Option Nat}:cT (x::rs) 0=x:=by cases x<;>rfl
theorem JX{x:Option Nat}:cT (x::rs) (l+1)=cT rs l:=rfl
theorem Mv(h:cT rs l=some k)(hl:decide (l<m'.length)=true):oH (cT rs) m m' (.ms k) (.ms l):=.ms l k h (of_decide_eq_true hl)
theorem Mu{l k i o:Nat}(h:cT rs l=some k)(hl:decide (l<m'.length)=true):oH (cT rs) m m' (.be k i o) (.be l i o):=.be l k i o h (of_decide_eq_true hl)
theorem Cm(h:cT rs l=none)(hl:decide (l<m'.length)=true):oH (cT rs) m m' (.v (.slice none 0 0)) (.ms l):=.Zaw l h (of_decide_eq_true hl)
theorem Cn{α:Type}{f:α→List PV}{ρ:Nat→Option Nat}{c:Nat}:oH ρ m m' (.v (.slice none 0 c)) (.sl (([]:List α).map f)):=.M3 c
def ZdH(rs:List (Option Nat))(k:Nat):Bool:=rs.all fun x=>match x with
 |some j=>!decide (j=k)
 |none=>true
theorem xq(h:ZdH rs k=true):dropped (cT rs) m' k:=by
 intro l _ he
 unfold cT at he
 cases hl:rs[l]? with
 |none=>rw[hl]at he;cases he
 |some x=>
  rw[hl]at he
  have Rj:x=some k:=he
  subst Rj
  have:=V5.1 h _ (VW hl)
  simp at this
theorem Cl{α:Type}{f:α→List PV}[dH f]{xs:List α}{T:TK}(hm:look m k=some ⟨T,k',xs.map f⟩)(hd:dropped (cT rs) m' k):oH (cT rs) m m' (.ms k) (.sl (xs.map f)):=.fms k ⟨T,k',xs.map f⟩ (ji.1 hm) yZ hd
theorem Iw{T:TK}(hm:look m k=some ⟨T,k',[cs]⟩)(hc:cs.all qE=true)(hd:dropped (cT rs) m' k):oH (cT rs) m m' (.be k 0 0) (.rp cs):=by
 have:=oH.fbe (ρ:=cT rs) (m:=m) (m':=m') k 0 0 ⟨T,k',[cs]⟩ cs (ji.1 hm) rfl (V5.1 hc) hd
 simpa using this
def yp(ρ:Nat→Option Nat)(m m':Mem)(mb nW:MB):Prop:=ZcE ρ m m' mb nW∧∀k0:Nat,m[k0]?=some (some mb)→N6 ρ m m' mb nW
def Jj:PV→Bool
 |.ms _|.ss ..=>false
 |_=>true
theorem Cp{ρ:Nat→Option Nat}(h:nW.T.kd=none):N6 ρ m m' mb nW:=fun T hT=>by rw[h]at hT;cases hT
theorem EJ{ρ:Nat→Option Nat}:N6 ρ m m' mb mb:=fun _ hT _ ds _ _ hi hj _=>.inl ⟨hT,ds,hi,hj⟩
theorem Mw{ρ:Nat→Option Nat}{es:List (List PV)}(h:oH ρ m m' p (.sl es))(hp:Jj p=true)(iw:es≠[]):p=.sl es:=by
 cases h with
 |c _ _=>rfl
 |M3 c=>exact absurd rfl iw
 |fms=>cases hp
 |fss=>cases hp
theorem ZaS{ρ:Nat→Option Nat}{T:TK}{es tA:List (List PV)}(h:yo ρ m m' es tA)(hn:∀cs∈es,∀p∈cs,Jj p=true):N6 ρ m m' ⟨T,k,es⟩ ⟨T,k',tA⟩:=fun T1 hT i ds j l hi hj iw=>by
 obtain⟨cs,h1,h2⟩:=(sB h).2 i ds hi
 obtain⟨p,h3,h4⟩:=(tH h2).2 j _ hj
 have:=Mw h4 (hn cs (VW h1) p (VW h3)) iw
 subst this
 exact .inl ⟨hT,cs,h1,h3⟩
def dV(rs:List (Option Nat))(m m':Mem):List (Option Nat)→Mem→Prop
 |_,[]=>True
 |r::rr,none::mm=>dV rs m m' rr mm
 |some k::rr,some nW::mm=>(∃mb,look m k=some mb∧yp (cT rs) m m' mb nW)∧dV rs m m' rr mm
 |none::rr,some nW::mm=>(nW.es=[]∧0<nW.k)∧dV rs m m' rr mm
 |_,_=>False
theorem Ds:dV rs m m' rr []:=by unfold dV;trivial
theorem AO{r:Option Nat}(h:dV rs m m' rr mm):dV rs m m' (r::rr) (none::mm):=h
theorem AP(h1:look m k=some mb)(h2:yp (cT rs) m m' mb nW)(h:dV rs m m' rr mm):dV rs m m' (some k::rr) (some nW::mm):=⟨⟨mb,h1,h2⟩,h⟩
theorem Dr{α:Type}{f:α→List PV}{T:TK}(hk:decide (0<k)=true)(h:dV rs m m' rr mm):dV rs m m' (none::rr) (some ⟨T,k,([]:List α).map f⟩::mm):=⟨⟨rfl,of_decide_eq_true hk⟩,h⟩
theorem wo{α:Type}{f:α→List PV}[dH f]{ρ:Nat→Option Nat}{T:TK}{xs:List α}:yp ρ m m' ⟨T,k,xs.map f⟩ ⟨T,k,xs.map f⟩:=⟨⟨rfl,rfl,.inl ⟨rfl,yZ⟩⟩,fun _ _=>EJ⟩
theorem It{ρ:Nat→Option Nat}{T k:Nat}(h:rX ρ m m' cs ds):yp ρ m m' ⟨T,k,[cs]⟩ ⟨T,k,[ds]⟩:=⟨⟨rfl,rfl,.inr ⟨h,trivial⟩⟩,fun _ _=>Cp rfl⟩
theorem uG{rs:List (Option Nat)}:∀(rr:List (Option Nat)) (mm:Mem),dV rs m m' rr mm→∀l nW,mm[l]?=some (some nW)→(∃k mb,cT rr l=some k∧m[k]?=some (some mb)∧yp (cT rs) m m' mb nW)∨(cT rr l=none∧nW.es=[]∧0<nW.k)
 |_,[],_,l,nW,h=>by simp at h
 | [],none::mm,h,_,_,_=>by unfold dV at h;exact h.elim
 | [],some _::mm,h,_,_,_=>by unfold dV at h;exact h.elim
 |r::rr,none::mm,h,l,nW,hl=>by
  cases l with
  |zero=>simp at hl
  |succ l=>exact uG rr mm h l nW (by simpa using hl)
 |some k::rr,some mb::mm,h,l,nW,hl=>by
  cases l with
  |zero=>
   obtain rfl:mb=nW:=by simpa using hl
   obtain⟨⟨Ku,h1,h2⟩,_⟩:=h
   exact .inl ⟨k,Ku,rfl,ji.1 h1,h2⟩
  |succ l=>exact uG rr mm h.2 l nW (by simpa using hl)
 |none::rr,some mb::mm,h,l,nW,hl=>by
  cases l with
  |zero=>
   obtain rfl:mb=nW:=by simpa using hl
   exact .inr ⟨rfl,h.1⟩
  |succ l=>exact uG rr mm h.2 l nW (by simpa using hl)
def pg:List (Option Nat)→Bool
 | []=>true
 |none::rs=>pg rs
 |some k::rs=>ZdH rs k&&pg rs
theorem I9:∀(rs:List (Option Nat)),pg rs=true→∀l l' k,cT rs l=some k→cT rs l'=some k→l=l'
 | [],_,l,l',k,h,_=>by simp[cT]at h
 |x::rs,hb,l,l',k,h,h'=>by
  have I3:∀{j:Nat},x=some k→cT rs j=some k→False:=by
   rintro j rfl hj
   simp only[pg,VZ]at hb
   have:=xq (m':=[]) hb.1
   unfold cT at hj
   cases hl:rs[j]? with
   |none=>rw[hl]at hj;cases hj
   |some y=>
    rw[hl]at hj
    have hy:y=some k:=hj
    subst hy
    have:=V5.1 hb.1 _ (VW hl)
    simp at this
  have uR:pg rs=true:=by cases x<;>simp_all[pg]
  cases l with
  |zero=>
   rw[SA]at h
   cases l' with
   |zero=>rfl
   |succ l'=>exact(I3 h (by simpa[JX]using h')).elim
  |succ l=>
   rw[JX]at h
   cases l' with
   |zero=>rw[SA]at h';exact(I3 h' h).elim
   |succ l'=>rw[I9 rs uR l l' k h (by simpa[JX]using h')]
def mi:Nat→Nat→List (Option Nat)→Mem→Bool
 |0,_,_,_=>true
 |_+1,_,_,[]=>false
 |n+1,i,rs,none::m=>mi n (i+1) (rs.drop 1) m
 |n+1,i,some k::rs,some _::m=>decide (k=i)&&mi n (i+1) rs m
 |_,_,_,_=>false
theorem yS:∀(n i:Nat) (rs:List (Option Nat)) (m':Mem),mi n i rs m'=true→n≤m'.length∧∀l,l<n→tc m' l=true→cT rs l=some (i+l)
 |0,i,rs,m',_=>⟨WV _,fun l hl=>by omega⟩
 |n+1,i,rs,[],h=>by simp[mi]at h
 |n+1,i,rs,none::m,h=>by
  simp only[mi]at h
  obtain⟨h1,h2⟩:=yS n (i+1) (rs.drop 1) m h
  refine⟨by simp;omega,fun l hl sn=>?_⟩
  cases l with
  |zero=>simp[tc]at sn
  |succ l=>
   have:=h2 l (by omega) (by simpa[tc]using sn)
   cases rs with
   |nil=>simp[cT]at this
   |cons x rs=>
    rw[JX]
    rw[show i+(l+1)=i+1+l by omega]
    simpa using this
 |n+1,i,some k::rs,some mb::m,h=>by
  simp only[mi,VZ,decide_eq_true_eq]at h
  obtain⟨h1,h2⟩:=yS n (i+1) rs m h.2
  refine⟨by simp;omega,fun l hl sn=>?_⟩
  cases l with
  |zero=>rw[SA,h.1];rfl
  |succ l=>
   rw[JX,show i+(l+1)=i+1+l by omega]
   exact h2 l (by omega) (by simpa[tc]using sn)
 |n+1,i,none::rs,some mb::m,h=>by simp[mi]at h
 |n+1,i,[],some mb::m,h=>by simp[mi]at h
theorem jz(hT:oI (cT rs) m m' t t')(hM:dV rs m m' rs m')(hi:pg rs=true)(hl:mi n0 0 rs m'=true):jy n0 t m t' m':=
 .one ⟨cT rs,hT,fun l nW hm=>(uG rs m' hM l nW hm).imp (fun⟨k,mb,a,b,c⟩=>⟨k,mb,a,b,c.1,c.2 k b⟩) id,fun l l' k _ _=>I9 rs hi l l' k,fun l AA sn=>by
  have:=(yS n0 0 rs m' hl).2 l AA sn
  simpa using this,(yS n0 0 rs m' hl).1⟩
end
end Go.Proofs.YtbalgkakkoocjaaGreat
namespace Go.Proofs.YtbalgkakkoocjaaGreat
set_option maxRecDepth 10000
open Go.ChangeShapes Go.WideShapes Go.ChangeAt Go.RowKit Go.Deep
variable {p:PV}{x:Value}
section
variable {H:Type} {enc:TypeId×Value→H} {P:Program} {w:World} {base:Nat} {spare:Nat→Bool} {held:Bool}
theorem Qi(a:Addr)(i j:Nat):(a.add i).add j=a.add (i+j):=by
 unfold Addr.add
 by_cases hi:i=0<;>by_cases hj:j=0<;>simp[hi,hj,Xu]
end
def Reads(w:World)(ps:List PV)(cs:List Value):Prop:=
 ps.length=cs.length∧∀(j:Nat) (p:PV) (x:Value),ps[j]?=some p→cs[j]?=some x→x.oneCell'=true∧fA w (fun b=>b<w.heap.size) p x
def ZaC(P:Program)(t:TypeId){α:Type}(f:α→List PV)(ok:α→Prop):Prop:=
 ∀{H:Type} {enc:TypeId×Value→H} {w:World} {base:Nat} {spare:Nat→Bool} {held:Bool} {fuel:Nat} {cs:List Value} {x:DataW H×List MemPlace},
  DataW.trod enc P w base spare held fuel t cs=some x→∃a:α,Reads w (f a) cs∧ok a
section
variable {w:World}
theorem wL(h1:x.oneCell'=true)(h:fA w (fun b=>b<w.heap.size) p x):Reads w [p] [x]:=by
 refine⟨rfl,fun j c y hj hy=>?_⟩
 cases j with
 |zero=>simp at hj hy;subst hj hy;exact⟨h1,h⟩
 |succ j=>simp at hj
theorem reads_rep1(h:Reads w [p] [x]):dL w (E1 (fun b=>b<w.heap.size) (fun _=>none) 0) p x:=.c (h.2 0 p x rfl rfl).2
end
section
variable {P:Program}
theorem decP_slice{α:Type}{f:α→List PV}{ok:α→Prop}{t e:TypeId}(ht:P.underlying t=some (.slice e))(hk:0<P.cellsOf e)(ZeR:ZaC P e f ok):
 ZaC P t (fun xs:List α=>[.sl (xs.map f)]) (fun xs=>xs.length≤maxLen∧∀y∈xs,ok y):=by
 intro H enc w base spare held fuel cs x h
 rcases open_slice ht h with⟨rfl,_⟩ |⟨a,n,c,m,k,D,Pl,rfl,_,hl,hm,hmm,_,hi⟩
 ·exact⟨[],wL rfl (.nil _ _),by unfold maxLen;simp,by simp⟩
 have hnm:n≤m:=by rw[hmm];split<;>omega
 have hex:∀i:_root_.Fin n,∃(a':α) (pS:List Value),ok a'∧Reads w (f a') pS∧w.cells? base (a.add (i*P.cellsOf e)) (P.cellsOf e)=some pS:=by
  intro i
  obtain⟨pS,hc,MR⟩:=hi i (by omega)
  obtain⟨a',hr,ik⟩:=ZeR MR
  exact⟨a',pS,ik,hr,hc⟩
 obtain⟨g,hg⟩:=XA hex
 obtain⟨cc,zH⟩:=XA hg
 refine⟨XP g,?_,by simp;omega,fun y hy=>by obtain⟨i,rfl⟩:=List.mem_ofFn.1 hy;exact(zH i).1⟩
 rcases Nat.eq_zero_or_pos n with h0|gz
 ·subst h0
  rw[List.ofFn_zero]
  exact wL rfl (.nil _ _)
 have Bb:∀(i:_root_.Fin n) (j:Nat),j<P.cellsOf e→w.cell? (a.add (i*P.cellsOf e+j))=(cc i)[j]?:=by
  intro i j hj
  obtain⟨_,_,h3⟩:=World.cells?_some (zH i).2.2
  have:=h3 j hj
  rwa[Qi]at this
 have hlen:∀i:_root_.Fin n,(cc i).length=P.cellsOf e:=fun i=>(World.cells?_some (zH i).2.2).2.1
 have wS:w.cell? (a.add (0*P.cellsOf e+0))=some ((cc ⟨0,gz⟩)[0]'(by rw[hlen];exact hk)):=by
  rw[Bb ⟨0,gz⟩ 0 hk];exact VT _
 have hs:=World.cell?_spot wS
 have hb:=World.block_lt_of_cell? _ _ wS
 obtain⟨b,off,spot⟩:=a
 have ZcU:∀q,(⟨b,off,none⟩:Addr).add q=⟨b,off+q,none⟩:=fun q=>by unfold Addr.add;split<;>simp_all
 have Zdp:spot=none:=by simpa[Addr.add]using hs
 subst Zdp
 rw[ZcU]at hb
 have zo:∀(i:Nat) (ps:List PV),((XP g).map f)[i]?=some ps→∃hi:i<n,ps=f (g ⟨i,hi⟩):=by
  intro i ps CG
  rw[List.getElem?_map]at CG
  obtain⟨y,hy,rfl⟩:=Ww.1 CG
  have hi:i<n:=by simpa using(VU.1 hy).1
  refine⟨hi,?_⟩
  simp[hi]at hy
  rw[hy]
 have hu:∀(i:Nat) (ps:List PV) (j:Nat) (p:PV),((XP g).map f)[i]?=some ps→ps[j]?=some p→
  ∃x,w.cell? ⟨b,off+i*P.cellsOf e+j,none⟩=some x∧x.oneCell'=true∧fA w (fun b=>b<w.heap.size) p x:=by
  intro i ps j p CG hp
  obtain⟨hi,rfl⟩:=zo i ps CG
  have hr:=(zH ⟨i,hi⟩).2.1
  have hj:j<P.cellsOf e:=by rw[←hlen ⟨i,hi⟩,←hr.1];exact(VU.1 hp).1
  have hx:=Bb ⟨i,hi⟩ j hj
  rw[ZcU,←Xu]at hx
  have wv:j<(cc ⟨i,hi⟩).length:=by rw[hlen];exact hj
  rw[VT wv]at hx
  exact⟨_,hx,hr.2 j p _ hp (VT wv)⟩
 have h:=fA.sl (w:=w) (S:=fun b=>b<w.heap.size) ((XP g).map f) b off (P.cellsOf e) c (fun i j=>(w.cell? ⟨b,off+i*P.cellsOf e+j,none⟩).getD .nilIface) hb hk (by simpa using hl) hm
  (fun i ps CG=>by obtain⟨hi,rfl⟩:=zo i ps CG;rw[(zH ⟨i,hi⟩).2.1.1,hlen])
  (fun i ps j p CG hp=>by obtain⟨x,hx,_⟩:=hu i ps j p CG hp;rw[hx];rfl)
  (fun i ps j p CG hp=>by obtain⟨x,hx,h1,_⟩:=hu i ps j p CG hp;rw[hx];exact h1)
  (fun i ps j p CG hp=>by obtain⟨x,hx,_,h2⟩:=hu i ps j p CG hp;rw[hx];exact h2)
 simp only[Wg,List.length_ofFn]at h
 exact wL rfl h
theorem CallOk.run{f:FuncId}{args:List PV}{b:Bool}(h:CallOk P f args (vb b) []){w:World}(ht:HY w (nL fun _=>none)){vs:Array Value}(hl:vs.size=args.length)(ha:∀(i:Nat) (p:PV),args[i]?=some p→∃x,vs[i]?=some x∧dL w (E1 (fun b=>b<w.heap.size) (fun _=>none) 0) p x):
 Calls P f vs w fun e w'=>e=.returned (.bool b)∧Up w w':=by
 have uQ:∀{b':Nat},nL (fun _=>none) b'→False:=by rintro b' ⟨l,B,h,_⟩;cases h
 have ik:Ok w (nL fun _=>none) (E1 (fun b=>b<w.heap.size) (fun _=>none) 0) w []:=
  ⟨FX.refl _ _,fun b h=>h,fun l B h=>(by cases h),fun l l' B B' h=>(by cases h),fun l h=>absurd h (Nat.not_lt_zero l),fun l B h=>(by cases h),fun l mb h=>(by simp at h),fun l B h=>(by cases h),ht,fun _ _ h=>h.elim⟩
 refine(h (fun b=>b<w.heap.size) (fun _=>none) w vs (fun _ _=>False) ik hl ha).mono ?_
 rintro e w' ⟨v,E',rfl,hk,_,_,_,hr⟩
 cases hr with
 |c hr=>cases hr;exact⟨rfl,⟨hk.up.os,hk.up.tape,hk.up.output,hk.up.size,fun b hb=>hk.up.block b hb fun h=>uQ h⟩⟩
end
end Go.Proofs.YtbalgkakkoocjaaGreat
