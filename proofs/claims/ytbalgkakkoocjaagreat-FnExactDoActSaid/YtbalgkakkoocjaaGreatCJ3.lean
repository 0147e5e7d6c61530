/- A part of the proof of the statement in the last file of this claim: texts on the language of the program and on its functions. No condition. -/
import Derived.Test.YtbalgkakkoocjaaGreatCJ2
import Derived.Test.YtbalgkakkoocjaaGreatCJ1
import Derived.ProofKit
import Derived.Deep.Slices
import Derived.Deep.Fields
import Derived.ChangeOld
import Derived.ChangeSame
import Derived.Test.YtbalgkakkoocjaaGreatChecked
import Derived.Lib.SmallJoins
set_option linter.unusedVariables false
set_option linter.unusedSimpArgs false
set_option linter.unusedSectionVars false
open Go.Value renaming int->ZF
open Go.IntKind renaming i64->ZG
open Go renaming undef->ZH
open Option renaming some->ZA,none->ZB
open Bool renaming true->ZC,false->ZD
open Decidable renaming decide->ZE
open Go.Proofs.Tryz
open List renaming mem_cons_self->Wc,mem_cons_of_mem->V5,range'->Yh,getElem?_eq_getElem->VF,mem_append_left->WO,mem_flatMap->W5,map_congr_left->WJ,all_eq_true->VS,mem_range->WQ,getElem?_eq_some_iff->VH,range->Wq,mem_filter->Xk,getD->W8,mem_of_getElem?->VI,replicate->VW,getElem?_append_left->Wi,getElem?_append_right->V9,map_id->XO,mem_map->V6,length_map->VX,ofFn->XE
open Nat renaming lt_trichotomy->W1,le_trans->Wb,zero_add->VY,add_assoc->Xv,zero_le->WG
open Bool renaming and_eq_true->VN
open Option renaming map_some->Wo,getD_some->Ww,map_eq_some_iff->VT
open _root_.Array renaming all_toList->XZ,getD_eq_getD_getElem?->Wv,getElem?_setIfInBounds_ne->Xo,getD->Xw,replicate->Xh
open Classical renaming axiomOfChoice->WR
namespace Go.Proofs.YtbalgkakkoocjaaGreat
set_option maxRecDepth 10000
open Go.RowKit
variable {T T':TypeId}{Ts:Array TypeId}{a:Option Addr}{c:Code}{cs ds ps zc:List PV}{fn:Func}{hi lo:Option PV}{id k k' l n:Nat}{m0 m1 mm:Mem}{mb nZ:MB}{oo:Oper}{p r:PV}{rr rs:List (Option Nat)}{s:ByteArray}{tm:Array Value}{v:Value}{x y:Operand}
def BD(σ:Nat->Nat):List Nat->Mem->Upd
 |l::ρ,x::m1=>(l,x.map (nL σ))::BD σ ρ m1
 |_,_=>[]
theorem LA{σ:Nat->Nat}:∀(ρ:List Nat) (m1 m:Mem),(∀l∈ρ,l<m.length)->qi σ ρ m1 m=app (BD σ ρ m1) m
 | [],m1,m,_=>by rfl
 |l::ρ,[],m,_=>rfl
 |l::ρ,x::m1,m,h=>by
  simp only[qi];rw[LA ρ m1 _ (λk hk=>by grind)]
  show app (BD σ ρ m1) _=app (BD σ ρ m1) (tE m (l,x.map (nL σ)));rw[show tE m (l,x.map (nL σ))=m.set l (x.map (nL σ))from yf (h l Wc) _]
theorem Dh{σ:Nat->Nat}{m m2:Mem}{n:Nat}:∀{ρ:List Nat} {m0:Mem},(∀l∈ρ,look m2 l=look m l)->qP σ m n ρ m0->qP σ m2 n ρ m0
 | [],[],_,_=>trivial
 | [],_::_,_,h=>h.elim
 |_::_,[],_,h=>h.elim
 |l::ρ,ZB::m0,_,h=>h.elim
 |l::ρ,ZA Sg::m0,hl,h=>⟨jq.1 ((hl l Wc).trans (jq.2 h.1)),h.2.1,Dh (λk hk=>hl k (V5 _ hk)) h.2.2⟩
def pIO(P:Program)(wd ν:Nat)(f:FuncId)(ps:List PV)(m:Mem)(K:List Nat->PV->Mem->Prop):Prop:=
 ∃(ρ:List Nat) (m0:Mem) (qs:List PV) (r:PV) (m1:Mem),cq P f qs m0 r m1/\m0.length<=m1.length/\m1.length-m0.length<=wd/\ps=qs.map (DI (sig ρ ν))/\(∀q∈qs,wT ZD q/\M3 m0.length q=ZC)/\ρ.Nodup/\qP (sig ρ ν) m m0.length ρ m0/\
  (∀mb,ZA mb∈m1->∀cs∈mb.es,∀p∈cs,er ZD p)/\tt ZD r/\K ρ (DJ (sig ρ ν) r) (jy (sig ρ ν) ν (m1.drop ρ.length) (qi (sig ρ ν) ρ m1 m))
def TX(P:Program)(wd ν:Nat)(o:Op)(t:List PV)(m:Mem)(K:List Nat->PV->Mem->Prop):Prop:=match o with
 |.call ⟨.value (.func f),xs,_⟩=>BW P f/\pIO P wd ν f (xs.toList.map (fS t)) m K
 |_=>False
theorem L4{σ:Nat->Nat}:∀(ρ:List Nat) (m1:Mem) (q:Nat×Option MB),q∈BD σ ρ m1->q.1∈ρ
 | [],m1,q,h=>by cases m1<;>simp[BD]at h
 |l::ρ,[],q,h=>by simp[BD]at h
 |l::ρ,x::m1,q,h=>by
  simp only[BD,List.mem_cons]at h
  rcases h with rfl|h
  ·simp
  ·exact V5 _ (L4 ρ m1 q h)
theorem Zco{P:Program}{m:Mem}{f:FuncId}{wd ν:Nat}{K:List Nat->PV->Mem->Prop}(h:pIO P wd ν f ps m K):
 ∃(ρ:List Nat) (p:PV) (u:Upd),K ρ p (app u m)/\(∀q∈u,q.1∈ρ++Yh ν wd)/\∀m2,(∀l∈ρ,look m2 l=look m l)->rz P ZC wd ν f ps m2 λp' m'=>p'=p/\m'=app u m2:=by
 obtain⟨ρ,m0,qs,r,m1,hc,hle,h16,Kh,hqs,hn,As,Sc,SR,hK⟩:=h;have bO:∀(m2:Mem),qP (sig ρ ν) m2 m0.length ρ m0->∀l∈ρ,l<m2.length:=λm2 hi l hl=>by
  obtain⟨i,hi1,rfl⟩:=List.getElem_of_mem hl;obtain⟨Sg,_,h2,_⟩:=(vS hi).2 i ρ[i] (VF hi1)
  grind
 have e:∀(m2:Mem),qP (sig ρ ν) m2 m0.length ρ m0->jy (sig ρ ν) ν (m1.drop ρ.length) (qi (sig ρ ν) ρ m1 m2)=app (BD (sig ρ ν) ρ m1++yI (sig ρ ν) ν (m1.drop ρ.length)) m2:=λm2 hi=>by
  rw[si,LA ρ m1 m2 (bO m2 hi)];simp only[app,List.foldl_append]
 have hlen:=(vS As).1;refine⟨ρ,DJ (sig ρ ν) r,BD (sig ρ ν) ρ m1++yI (sig ρ ν) ν (m1.drop ρ.length),by grind,λq hq=>?_,λm2 Ft=>?_⟩
 ·rcases List.mem_append.1 hq with hq|hq
  ·exact WO _ (L4 _ _ _ hq)
  ·have:=yJ _ _ _ q hq
   grind
 ·have Zna:=Dh Ft As
  exact .inr ⟨ρ,m0,qs,r,m1,.inl rfl,hc,hle,h16,Kh,hqs,hn,Zna,Sc,SR,rfl,e m2 Zna⟩
def Ti:List Nat->Nat->Bool
 | [],_=>ZD
 |a::l,i=>if a=i then ZC else Ti l i
def Zh1(ops:Array Oper)(o:Oper)(ρ:List Nat)(wd ν:Nat):LE:=⟨ρ,ρ++Yh ν wd,FD ops o,o.dst⟩
def kj(P:Program)(wd base:Nat)(fl:List Nat)(ops:Array Oper)(K:List LE->List PV->Mem->Prop):Nat->List Oper->List LE->List PV->Mem->Prop
 |_,[],g,t,m=>K g t m
 |i,o::rest,g,t,m=>match o.guard with
  |none=>if Ti fl i=ZC then TX P wd (base+wd*i) o.op t m λρ p m'=>kj P wd base fl ops K (i+1) rest (g++[Zh1 ops o ρ wd (base+wd*i)]) (jk t o.dst p) m'
   else je P ZD wd (base+wd*i) o.op t m λp m'=>kj P wd base fl ops K (i+1) rest (g++[Tn ops o t wd (base+wd*i)]) (jk t o.dst p) m'
  |some (j,b)=>match(ops[j]?).bind (·.dst)with
   |none=>kj P wd base fl ops K (i+1) rest (g++[le0 ops o]) (jk t o.dst .ud) m
   |some d=>match t.getD d .un,b with
    |.v (.bool c),ZC=>gate c (je P ZD wd (base+wd*i) o.op (t.set d (.v (.bool ZC))) m λp m'=>kj P wd base fl ops K (i+1) rest (g++[Tn ops o (t.set d (.v (.bool ZC))) wd (base+wd*i)]) (jk (t.set d (.v (.bool ZC))) o.dst p) m')
     (kj P wd base fl ops K (i+1) rest (g++[le0 ops o]) (jk (t.set d (.v (.bool ZD))) o.dst .ud) m)
    |.v (.bool c),ZD=>gate c (kj P wd base fl ops K (i+1) rest (g++[le0 ops o]) (jk (t.set d (.v (.bool ZC))) o.dst .ud) m)
     (je P ZD wd (base+wd*i) o.op (t.set d (.v (.bool ZD))) m λp m'=>kj P wd base fl ops K (i+1) rest (g++[Tn ops o (t.set d (.v (.bool ZD))) wd (base+wd*i)]) (jk (t.set d (.v (.bool ZD))) o.dst p) m')
    |.ud,_=>kj P wd base fl ops K (i+1) rest (g++[le0 ops o]) (jk t o.dst .ud) m
    |_,_=>False
def Want(ops:Array Oper)(o:Oper)(t:List PV):Prop:=o.guard=ZB\/∃j b d,o.guard=ZA (j,b)/\(ops[j]?).bind (·.dst)=ZA d/\t.getD d .un=.v (.bool b)
def Sl(ops:Array Oper)(o:Oper)(t:List PV):Prop:=∃j b,o.guard=ZA (j,b)/\((ops[j]?).bind (·.dst)=ZB\/∃d,(ops[j]?).bind (·.dst)=ZA d/\(t.getD d .un=.ud\/t.getD d .un=.v (.bool (!b))))
def Zok(P:Program)(wd ν:Nat)(ops:Array Oper)(o:Oper)(a:RA)(t:List PV)(m:Mem):Prop:=
 (Want ops o t/\∃io:Bool,je P io wd ν o.op t m λp' m'=>p'=a.p/\m'=app a.u m)\/(Sl ops o t/\a.p=.ud/\a.u=[])
structure Stp(P:Program)(wd ν:Nat)(ops:Array Oper)(o:Oper)(a:RA)(g:LE)(t:List PV)(m:Mem):Prop where
 ad:a.d=o.dst
 gd:g.d=o.dst
 gt:g.ts=FD ops o
 wr:∀q∈a.u,q.1∈g.wr
 ZoS:∀t2 m2,(∀s∈g.ts,t2.getD s .un=t.getD s .un)->(∀l∈g.rd,look m2 l=look m l)->Zok P wd ν ops o a t2 m2
section
variable {P:Program} {wd base:Nat} {fl:List Nat} {ops:Array Oper} {K:List LE->List PV->Mem->Prop}
theorem JO{L:Nat->Bool}:∀(as_:List RA) (i:Nat) (t:List PV),(∀k,L (i+k)=ZD)->zX L i as_ t=t
 | [],_,_,_=>rfl
 |a::as_,i,t,h=>by
  simp only[zX];rw[show L i=ZD from h 0];exact JO as_ (i+1) t λk=>by rw[show i+1+k=i+(k+1)by omega];simp_all
theorem JM{L:Nat->Bool}:∀(as_:List RA) (i:Nat) (m:Mem),(∀k,L (i+k)=ZD)->stM L i as_ m=m
 | [],_,_,_=>rfl
 |a::as_,i,m,h=>by
  simp only[stM];rw[show L i=ZD from h 0];exact JM as_ (i+1) m λk=>by rw[show i+1+k=i+(k+1)by omega];simp_all
theorem Pr{t t2:List PV}(h:∀s∈ZgE x,t2.getD s .un=t.getD s .un):fS t2 x=fS t x:=by
 cases x with
 |tmp i=>exact h i (by simp[ZgE])
 |_=>rfl
theorem Rj{t:List PV}{d:Nat}(h:t.getD d .un=p)(dX:p≠.un):t.set d p=t:=by
 apply List.ext_getElem?
 grind
theorem ZiZ{o:Oper}{t t2:List PV}{m m2:Mem}{wd ν:Nat}(h1:∀s∈FD ops o,t2.getD s .un=t.getD s .un)(h2:∀l∈opR o.op t,look m2 l=look m l):Same o.op t m t2 m2:=
 ⟨λx hx=>Pr λs hs=>h1 s (WO _ (W5.2 ⟨x,hx,hs⟩)),h2⟩
theorem Lz:∀(l:List Oper) (i:Nat) (g:List LE) (t:List PV) (m:Mem),kj P wd base fl ops K i l g t m->
 ∃(as_:List RA) (gs:List LE),as_.length=l.length/\gs.length=l.length/\K (g++gs) (zX (λ_=>ZC) i as_ t) (stM (λ_=>ZC) i as_ m)/\
  ∀k o,l[k]?=ZA o->∃a e,as_[k]?=ZA a/\gs[k]?=ZA e/\Stp P wd (base+wd*(i+k)) ops o a e (zX (λj=>ZE (j<i+k)) i as_ t) (stM (λj=>ZE (j<i+k)) i as_ m)
 | [],i,g,t,m,h=>by
  unfold kj at h
  exact⟨[],[],rfl,rfl,by simpa[zX,stM]using h,λk o hk=>by grind⟩
 |o::l,i,g,t,m,h=>by
  -- one step,and the rest
  have next:∀(a:RA) (e:LE),kj P wd base fl ops K (i+1) l (g++[e]) (jk t a.d a.p) (app a.u m)->Stp P wd (base+wd*i) ops o a e t m->∃(as_:List RA) (gs:List LE),as_.length=(o::l).length/\gs.length=(o::l).length/\K (g++gs) (zX (λ_=>ZC) i as_ t) (stM (λ_=>ZC) i as_ m)/\
   ∀k o',(o::l)[k]?=ZA o'->∃a e,as_[k]?=ZA a/\gs[k]?=ZA e/\Stp P wd (base+wd*(i+k)) ops o' a e (zX (λj=>ZE (j<i+k)) i as_ t) (stM (λj=>ZE (j<i+k)) i as_ m):=by
   intro a e h hs;obtain⟨as_,gs,h1,h2,h3,h4⟩:=Lz l (i+1) _ _ _ h;refine⟨a::as_,e::gs,by grind,by grind,by simpa[zX,stM]using h3,λk o' hk=>?_⟩
   cases k with
   |zero=>
    obtain rfl:o=o':=by simp_all
    refine⟨a,e,rfl,rfl,?_⟩;rw[JO _ _ _ (λk=>by simp),JM _ _ _ (λk=>by simp)]
    omega
   |succ k=>
    obtain⟨a',e',g1,g2,g3⟩:=h4 k o' Y9;simp only[zX,stM,show ZE (i<i+(k+1))=ZC by simp,if_true]
    grind
  have pass:∀(Bt:∀t2:List PV,(∀s∈FD ops o,t2.getD s .un=t.getD s .un)->Sl ops o t2),kj P wd base fl ops K (i+1) l (g++[le0 ops o]) (jk t o.dst .ud) m->∃(as_:List RA) (gs:List LE),as_.length=(o::l).length/\gs.length=(o::l).length/\K (g++gs) (zX (λ_=>ZC) i as_ t) (stM (λ_=>ZC) i as_ m)/\
   ∀k o',(o::l)[k]?=ZA o'->∃a e,as_[k]?=ZA a/\gs[k]?=ZA e/\Stp P wd (base+wd*(i+k)) ops o' a e (zX (λj=>ZE (j<i+k)) i as_ t) (stM (λj=>ZE (j<i+k)) i as_ m):=by
   intro Bt h;exact next ⟨o.dst,.ud,[]⟩ (le0 ops o) h ⟨rfl,rfl,rfl,by simp,λt2 m2 h1 _=>.inr ⟨Bt t2 h1,rfl,rfl⟩⟩
  have run:∀(hw:∀t2:List PV,(∀s∈FD ops o,t2.getD s .un=t.getD s .un)->Want ops o t2),(je P ZD wd (base+wd*i) o.op t m λp m'=>kj P wd base fl ops K (i+1) l (g++[Tn ops o t wd (base+wd*i)]) (jk t o.dst p) m')->∃(as_:List RA) (gs:List LE),as_.length=(o::l).length/\gs.length=(o::l).length/\K (g++gs) (zX (λ_=>ZC) i as_ t) (stM (λ_=>ZC) i as_ m)/\
   ∀k o',(o::l)[k]?=ZA o'->∃a e,as_[k]?=ZA a/\gs[k]?=ZA e/\Stp P wd (base+wd*(i+k)) ops o' a e (zX (λj=>ZE (j<i+k)) i as_ t) (stM (λj=>ZE (j<i+k)) i as_ m):=by
   intro hw h;obtain⟨p,u,h1,h2,h3⟩:=TU h;exact next ⟨o.dst,p,u⟩ (Tn ops o t wd (base+wd*i)) h1 ⟨rfl,rfl,rfl,h2,λt2 m2 e1 e2=>.inl ⟨hw t2 e1,ZD,h3 t2 m2 (ZiZ (ops:=ops) (wd:=wd) (ν:=0) e1 e2)⟩⟩
  have gs:∀{j b d},o.guard=ZA (j,b)->(ops[j]?).bind (·.dst)=ZA d->d∈FD ops o:=λhg hd=>List.mem_append_right _ (by simp[Zjt,hg,hd])
  simp only[kj]at h
  split at h
  ·rename_i hg
   split at h
   ·unfold TX at h
    split at h
    ·rename_i f xs Ts hop
     obtain⟨hfn,hc⟩:=h;obtain⟨ρ,p,u,hK,BU,Zpr⟩:=Zco hc;refine next ⟨o.dst,p,u⟩ (Zh1 ops o ρ wd (base+wd*i)) hK ⟨rfl,rfl,rfl,BU,λt2 m2 e1 e2=>.inl ⟨.inl hg,ZC,?_⟩⟩
     have ZbO:xs.toList.map (fS t2)=xs.toList.map (fS t):=WJ λx hx=>Pr λs hs=>e1 s (WO _ (W5.2 ⟨x,by rw[hop];simp[Op.operands,Call.operands,Array.mem_toList_iff.1 hx],hs⟩))
     rw[hop];show BW P f/\rz P ZC wd _ f (xs.toList.map (fS t2)) m2 _;rw[ZbO];exact⟨hfn,Zpr m2 e2⟩
    simp_all
   ·exact run (λt2 _=>.inl hg) h
  ·rename_i j b hg
   split at h
   ·rename_i J4;exact pass (λt2 _=>⟨j,b,hg,.inl J4⟩) h
   ·rename_i d J4
    split at h
    ·rename_i c hc
     have Dc:=λc' (K6:c=c')=>Rj (t:=t) (d:=d) (p:=.v (.bool c')) (by rw[hc,K6]) YJ
     cases c with
     |true=>rw[Dc ZC rfl]at h;exact run (λt2 e=>.inr ⟨j,ZC,d,hg,J4,(e d (gs hg J4)).trans hc⟩) (h.1 rfl)
     |false=>rw[Dc ZD rfl]at h;exact pass (λt2 e=>⟨j,ZC,hg,.inr ⟨d,J4,.inr ((e d (gs hg J4)).trans hc)⟩⟩) (h.2 rfl)
    ·rename_i c hc
     have Dc:=λc' (K6:c=c')=>Rj (t:=t) (d:=d) (p:=.v (.bool c')) (by rw[hc,K6]) YJ
     cases c with
     |true=>rw[Dc ZC rfl]at h;exact pass (λt2 e=>⟨j,ZD,hg,.inr ⟨d,J4,.inr ((e d (gs hg J4)).trans hc)⟩⟩) (h.1 rfl)
     |false=>rw[Dc ZD rfl]at h;exact run (λt2 e=>.inr ⟨j,ZD,d,hg,J4,(e d (gs hg J4)).trans hc⟩) (h.2 rfl)
    ·rename_i hc;exact pass (λt2 e=>⟨j,_,hg,.inr ⟨d,J4,.inl ((e d (gs hg J4)).trans hc)⟩⟩) h
    simp_all
/-! Zoq the check Zqe. -/
def Sj(ops:List Oper)(L:Nat->Bool):Prop:=∀(j:Nat) (o:Oper),ops[j]?=ZA o->L j=ZC->∀e∈o.after.toList,Region.binds .any e=ZC->L e.on=ZC
theorem Jb{L:Nat->Bool}{acc:List Nat}(My:∀j,L j=ZC->∀i,(acc.getD j 0).testBit i=ZC->L i=ZC):∀(es:List Edge),(∀e∈es,Region.binds .any e=ZC->L e.on=ZC)->∀i,(es.foldr (λe s=>if Region.binds .any e then s |||2 ^ e.on |||acc.getD e.on 0 else s) 0).testBit i=ZC->L i=ZC
 | [],_,i,h=>by grind
 |e::es,he,i,h=>by
  simp only[List.foldr_cons]at h
  split at h
  ·simp only[Nat.testBit_or,Bool.or_eq_true]at h
   rcases h with(h|h) |h
   ·exact Jb My es (λe' h'=>he e' (V5 _ h')) i h
   all_goals grind
  ·exact Jb My es (λe' h'=>he e' (V5 _ h')) i h
theorem EG{ops:List Oper}{L:Nat->Bool}(xk:Sj ops L):∀(l:List Oper) (acc:List Nat),(∀k,l[k]?=ops[acc.length+k]?)->(∀j,L j=ZC->∀i,(acc.getD j 0).testBit i=ZC->L i=ZC)->∀j,L j=ZC->∀i,((Vv l acc).getD j 0).testBit i=ZC->L i=ZC
 | [],acc,_,My=>My
 |o::l,acc,hl,My=>by
  refine EG xk l _ (λk=>?_) λj hj i hi=>?_
  ·have:=hl (k+1)
   grind
  ·rcases W1 j acc.length with h|h|h
   ·refine My j hj i ?_
    grind
   ·subst h
    have h0:=hl 0;have lS:(Zfo acc o).testBit i=true:=by simp_all
    exact Jb My o.after.toList (λe he hb=>xk acc.length o h0.symm hj e he hb) i lS
   grind
theorem KL{ops:List Oper}{g:List LE}(h:Sw ops g=ZC){i j:Nat}(C9:i<j)(hj:j<ops.length):((Vv ops []).getD j 0).testBit i=ZC\/Eb (g.getD i default) (g.getD j default)=true:=by
 unfold Sw at h
 grind
theorem Zg5{ops:List Oper}{g:List LE}(h:Sw ops g=ZC){j:Nat}{o:Oper}(hj:ops[j]?=ZA o):∀e∈o.after.toList,Region.binds .any e=ZC->e.on<j:=by
 have:=VS.1 h j (WQ.2 (VH.1 hj).1);rw[VN,hj]at this
 have h1:=this.1;simp only[Wo]at h1
 rw[<-XZ]at h1
 grind
/-! The region. -/
section
variable {w:World} {O:Nat->Prop} {E:Env} {w0:World} {m:Mem} {S0:Nat->Prop} {ω0:Nat->Key->Prop}
def unl(n:Nat)(cB:Array Bool):Nat:=((Wq n).filter λj=>!cB.getD j ZD).length
theorem Zje{n i:Nat}{cB:Array Bool}(hi:i<n)(hs:cB.size=n)(h:cB.getD i ZD=ZD):unl n (cB.setIfInBounds i ZC)<unl n cB:=by
 unfold unl;have e:(Wq n).filter (λj=>!(cB.setIfInBounds i ZC).getD j ZD)=((Wq n).filter λj=>!cB.getD j ZD).filter λj=>ZE (j≠i):=by
  rw[List.filter_filter];apply List.filter_congr;intro j hj
  by_cases Cl:j=i
  ·simp_all
  ·have:(cB.setIfInBounds i ZC).getD j ZD=cB.getD j false:=by
    rw[Wv,Wv,Xo (λe=>Cl e.symm)]
   grind
 rw[e];exact List.length_filter_lt_length_iff_exists.2 ⟨i,by
  grind,by simp⟩
structure Zjk(P:Program)(wd:Nat)(ops:List Oper)(as_:List RA)(gs:List LE)(t0:List PV)(m0:Mem):Prop where
 la:as_.length=ops.length
 lg:gs.length=ops.length
 dg:Sw ops gs=ZC
 st:∀(k:Nat) (o:Oper),ops[k]?=ZA o->∃a e,as_[k]?=ZA a/\gs[k]?=ZA e/\Stp P wd (m0.length+wd*k) ops.toArray o a e (zX (λj=>ZE (j<k)) 0 as_ t0) (stM (λj=>ZE (j<k)) 0 as_ m0)
theorem Zjg{ops:Array Oper}{o:Oper}{t:List PV}(h:Want ops o t)(ht:uP w E t tm):Region.wanted o (yielded ops tm)=true:=by
 rcases h with h|⟨j,b,d,hg,hd,hs⟩
 ·exact IH h _
 ·rw[yp hg hd ht hs];simp
theorem Zck{ops:Array Oper}{o:Oper}{t:List PV}(h:Sl ops o t)(ht:uP w E t tm):Region.wanted o (yielded ops tm)=false:=by
 obtain⟨j,b,hg,h|⟨d,hd,h|h⟩⟩:=h
 ·exact Px hg h _
 ·exact Py hg hd ht h
 ·rw[yp hg hd ht h];simp
def SBd(S0:Nat->Prop)(ω0:Nat->Key->Prop)(w0:World)(O:Nat->Prop)(E:Env):Prop:=(∀b,E.S b->S0 b\/w0.heap.size<=b\/O b)/\∀b q,E.ω b q->ω0 b q\/w0.heap.size<=b\/O b
theorem Zgk{w':World}{E':Env}(hk:Ok w0 O E w m)(h2:SBd S0 ω0 w0 O E)(k2:Ext w w' E E'):SBd S0 ω0 w0 O E':=by
 refine⟨λb hb=>?_,λb q hb=>?_⟩
 ·rcases k2.S' b hb with h|h|⟨l,B,hB,hz,rfl⟩
  ·exact h2.1 b h
  ·exact .inr (.inl (Wb hk.up.size h))
  ·rcases(hk.own l B hB hz).1 with h|h
   all_goals grind
 ·rcases k2.ω' b q hb with h|h|⟨l,B,hB,hz,rfl⟩
  ·exact h2.2 b q h
  ·exact .inr (.inl (Wb hk.up.size h))
  ·rcases(hk.own l B hB hz).1 with h|h
   all_goals grind
theorem Pe(PN:0<wd){ops:List Oper}{as_:List RA}{gs:List LE}{t0:List PV}(Kj:Zjk P wd ops as_ gs t0 m0){J:Env->Prop}(hJ:∀w w' E E',Ext w w' E E'->J E->J E'){K:List PV->Mem->Prop}{Q:Exit->Act->World->Prop}
 (hK:K (zX (λ_=>ZC) 0 as_ t0) (stM (λ_=>ZC) 0 as_ m0))
 (hQ:∀t m a w E,K t m->Ok w0 O E w m->(∀b,S0 b->E.S b)->SBd S0 ω0 w0 O E->a.defers=[]->uP w E t a.tmps->J E->Q .normal a w):
 ∀(fuel:Nat) (cB:Array Bool) (a:Act) (w:World) (E:Env),cB.size=ops.length->unl ops.length cB<=fuel->Sj ops (λj=>cB.getD j ZD)->
  Ok w0 O E w (stM (λj=>cB.getD j ZD) 0 as_ m0)->(∀b,S0 b->E.S b)->SBd S0 ω0 w0 O E->a.defers=[]->uP w E (zX (λj=>cB.getD j ZD) 0 as_ t0) a.tmps->
  (∀l,E.used l->l<m0.length\/∃j,cB.getD j ZD=ZC/\m0.length+wd*j<=l/\l<m0.length+wd*j+wd)->J E->wpAny P .any ops.toArray Q fuel cB a w:=by
 -- all is cB where nothing may Zri
 have fin:∀(cB:Array Bool),cB.size=ops.length->Region.ready .any ops.toArray cB=[]->∀j,j<ops.length->cB.getD j ZD=true:=by
  intro cB hs hr j
  induction j using Nat.strongRecOn with
  |_ j ih=>
   intro hj
   by_cases hl:cB.getD j ZD=ZC
   ·exact hl
   ·exfalso
    have ZeK:j∈Region.ready .any ops.toArray cB:=by
     unfold Region.ready;refine Xk.2 ⟨WQ.2 Zs,?_⟩;have h1:cB.getD j ZC=false:=by
      have hjs:j<cB.size:=by rw[hs];exact hj
      have:cB.getD j ZD=false:=by simpa using hl
      simp only[Xw,hjs,dif_pos]at this⊢
      exact this
     rw[h1];obtain⟨o,ho⟩:∃o,ops[j]?=ZA o:=⟨ops[j],VF hj⟩;have Ol:(ops.toArray)[j]?=ZA o:=by simpa using ho
     rw[Ol];simp only[Wo,Ww,Bool.not_false,Bool.true_and];rw[<-XZ,VS];intro e he
     by_cases hb:Region.binds .any e=ZC
     ·have bO:=Zg5 Kj.dg ho e he hb
      simp[hb,ih e.on bO YG]
     ·simp[hb]
    rw[hr]at ZeK
    cases ZeK
 have done:∀(cB:Array Bool) (a:Act) (w:World) (E:Env),cB.size=ops.length->Region.ready .any ops.toArray cB=[]->Ok w0 O E w (stM (λj=>cB.getD j ZD) 0 as_ m0)->(∀b,S0 b->E.S b)->SBd S0 ω0 w0 O E->a.defers=[]->uP w E (zX (λj=>cB.getD j ZD) 0 as_ t0) a.tmps->J E->Q .normal a w:=by
  intro cB a w E hs hr hk h1 h2 hd ht hj;have CW:=fin cB hs hr;rw[Uy as_ 0 m0 (L':=λ_=>ZC) λk hk=>by simp only[VY];exact CW k (by rw[<-Kj.la];exact hk)]at hk
  rw[Uz as_ 0 t0 (L':=λ_=>ZC) λk hk=>by simp only[VY];exact CW k (by rw[<-Kj.la];exact hk)]at ht
  exact hQ _ _ a w E hK hk h1 h2 hd ht hj
 intro fuel
 induction fuel with
 |zero=>
  intro cB a w E hs hu xk hk h1 h2 hd ht De hjE;have hr:Region.ready .any ops.toArray cB=[]:=by
   unfold Region.ready;rw[List.filter_eq_nil_iff];intro j hj;have yr:j<ops.length:=by simpa using hj
   have CW:cB.getD j ZD=true:=by
    unfold unl at hu
    have ZhG:=List.length_eq_zero_iff.1 (Nat.le_zero.1 hu);rw[List.filter_eq_nil_iff]at ZhG
    simpa using ZhG j (WQ.2 yr)
   have hjs:j<cB.size:=by rw[hs];exact yr
   have:cB.getD j ZC=true:=by
    simp only[Xw,hjs,dif_pos]at CW⊢
    exact CW
   simp[this]
  exact⟨hr,done cB a w E hs hr hk h1 h2 hd ht hjE⟩
 |succ fuel ih=>
  intro cB a w E hs hu xk hk h1 h2 hd ht De hjE;refine⟨λhr=>done cB a w E hs hr hk h1 h2 hd ht hjE,λi hi=>?_⟩
  obtain⟨hi1,yT⟩:=Xk.1 hi;have As:i<ops.length:=by simpa using hi1
  obtain⟨o,ho⟩:∃o,ops[i]?=ZA o:=⟨ops[i],VF As⟩;have Ol:(ops.toArray)[i]?=ZA o:=by simpa using ho
  rw[Ol]at yT
  simp only[Wo,Ww,VN,Bool.not_eq_true']at yT
  obtain⟨Znj,Zey⟩:=yT;have Vl:i<cB.size:=by rw[hs];exact As
  have D0:cB.getD i ZD=false:=by
   simp only[Xw,Vl,dif_pos]at Znj⊢
   exact Znj
  have Zm5:∀e∈o.after.toList,Region.binds .any e=ZC->cB.getD e.on false=true:=by
   intro e he hb;rw[<-XZ]at Zey
   have:=VS.1 Zey e he
   simpa[hb]using this
  obtain⟨ai,ei,ha,he,xu⟩:=Kj.st i o ho
  let L:Nat->Bool:=λj=>cB.getD j ZD
  have Zpk:=EG xk ops [] (λk=>by simp) (λj _ i h=>by simp[W8]at h)
  -- RT is cB behind i is apart from it;RT is not cB ahead of it,too
  have Zhw:∀{k e'},gs[k]?=ZA e'->gs.getD k default=e':=λh=>by simp[W8,h]
  have SL:∀(k:Nat) (e':LE),gs[k]?=ZA e'->i<k->L k=ZC->Eb ei e'=true:=by
   intro k e' hk' bO hL;have hkn:k<ops.length:=by rw[<-Kj.lg];exact(VH.1 hk').1
   rcases KL Kj.dg bO hkn with h|h
   ·have:=Zpk k hL i h
    simp[D0]at this
   ·rwa[Zhw he,Zhw hk']at h
  have ZkC:Sj ops (ins L i):=by
   intro j o' hj hL e he' hb;simp only[ins]at hL⊢
   split at hL
   ·rename_i Cl
    subst Cl;rw[ho]at hj
    cases hj
    split
    ·rfl
    ·exact Zm5 e he' hb
   ·split
    ·rfl
    ·exact xk j o' hj hL e he' hb
  have Zm2:=EG ZkC ops [] (λk=>by simp) (λj _ i h=>by simp[W8]at h)
  have ZhB:∀(k:Nat) (e':LE),gs[k]?=ZA e'->k<i->L k=ZD->Eb e' ei=true:=by
   intro k e' hk' bO hL
   rcases KL Kj.dg bO As with h|h
   ·have:=Zm2 i (by simp[ins]) k h
    simp only[ins]at this
    rw[if_neg YG]at this
    rw[hL]at this;cases this
   ·rwa[Zhw he,Zhw hk']at h
  have part:∀{x y:LE},Eb x y=ZC->tD x.wr y.rd=ZC/\tD x.wr y.wr=ZC/\tD y.wr x.rd=ZC/\tD x.d.toList y.ts=ZC/\tD y.d.toList x.ts=ZC/\tD x.d.toList y.d.toList=true:=by
   intro x y h;simp only[Eb,VN]at h
   exact⟨h.1.1.1.1.1,h.1.1.1.1.2,h.1.1.1.2,h.1.1.2,h.1.2,h.2⟩
  -- the Zqg own entries
  have stp:∀{k:Nat} {b:RA},as_[k]?=ZA b->∃e':LE,gs[k]?=ZA e'/\b.d=e'.d/\∀q∈b.u,q.1∈e'.wr:=by
   intro k b hb;have hkn:k<ops.length:=by rw[<-Kj.la];exact(VH.1 hb).1
   obtain⟨a',e',g1,g2,g3⟩:=Kj.st k ops[k] (VF hkn);rw[hb]at g1
   cases g1
   exact⟨e',g2,g3.ad.trans g3.gd.symm,g3.wr⟩
  have parts:∀(k:Nat) (b:RA),as_[k]?=ZA b->L (0+k)≠(ZE (0+k<i))->∃e':LE,gs[k]?=ZA e'/\b.d=e'.d/\(∀q∈b.u,q.1∈e'.wr)/\(∀s∈e'.d.toList,s ∉ ei.ts)/\∀l∈e'.wr,l ∉ ei.rd:=by
   intro k b hb dX;rw[VY]at dX
   obtain⟨e',g1,g2,g3⟩:=stp hb;refine⟨e',g1,g2,g3,?_⟩
   rcases W1 k i with h|h|h
   ·have hL:L k=false:=by
     cases hLk:L k with
     |false=>rfl
     |true=>rw[hLk]at dX;simp[h]at dX
    obtain⟨p1,p2,p3,p4,p5,p6⟩:=part (ZhB k e' g1 h hL);exact⟨λs hs hs'=>vA p4 hs hs' rfl,λl hl PJ=>vA p1 hl PJ rfl⟩
   ·subst h
    simp only[Nat.lt_irrefl,decide_false]at dX
    exact absurd D0 dX
   ·have hL:L k=true:=by
     cases hLk:L k with
     |true=>rfl
     |false=>rw[hLk]at dX;simp[Nat.not_lt.2 (Nat.le_of_lt h)]at dX
    obtain⟨p1,p2,p3,p4,p5,p6⟩:=part (SL k e' g1 h hL);exact⟨λs hs hs'=>vA p5 hs hs' rfl,λl hl PJ=>vA p3 hl PJ rfl⟩
  have Zm6:=xu.ZoS (zX L 0 as_ t0) (stM L 0 as_ m0) (λs hs=>LP as_ 0 t0 t0 rfl rfl λk b hb dX=>by
   obtain⟨e',g1,g2,g3,g4,g5⟩:=parts k b hb dX;rw[g2];intro yL;exact g4 s (by rw[yL];simp) hs) (λl hl=>LO as_ 0 m0 m0 rfl λk b hb dX q hq=>by
   obtain⟨e',g1,g2,g3,g4,g5⟩:=parts k b hb dX;intro hql;exact g5 q.1 (g3 q hq) (by rw[hql];exact hl))
  -- the next state
  have Fs:(λj=>(cB.setIfInBounds i ZC).getD j ZD)=ins L i:=by
   funext j
   simp only[ins]
   split
   ·rename_i Cl;subst Cl;simp[Xw,Vl]
   ·rename_i Cl
    rw[Wv,Xo (λe=>Cl e.symm),<-Wv]
  have hTi:zX (ins L i) 0 as_ t0=jk (zX L 0 as_ t0) ai.d ai.p:=by
   have:=ZaC (L:=L) as_ 0 i t0 ha (by rw[VY];exact D0) λk b hb bO hL=>by
    rw[VY]at hL
    obtain⟨e',g1,g2,g3⟩:=stp hb;obtain⟨p1,p2,p3,p4,p5,p6⟩:=part (SL k e' g1 bO hL);rw[g2,xu.ad.trans xu.gd.symm]
    cases hd1:ei.d with
    |none=>exact .inl rfl
    |some x=>
     refine .inr λhd2=>?_
     exact vA p6 (x:=x) (y:=x) (by simp[hd1]) (by rw[<-hd2];simp) rfl
   simpa using this
  have hMi:stM (ins L i) 0 as_ m0=app ai.u (stM L 0 as_ m0):=by
   have:=ZaB (L:=L) as_ 0 i m0 ha (by rw[VY];exact D0) λk b hb bO hL q hq r hr=>by
    rw[VY]at hL
    obtain⟨e',g1,g2,g3⟩:=stp hb;obtain⟨p1,p2,p3,p4,p5,p6⟩:=part (SL k e' g1 bO hL);exact vA p2 (xu.wr q hq) (g3 r hr)
   simpa using this
  have hdd:∀x,(a.put o.dst x).defers=[]:=λx=>by cases o.dst<;>exact hd
  have bO:=Zje As hs D0;unfold wpOp;rw[Ol]
  rcases Zm6 with⟨hw,io,hp⟩ |⟨hw,hp,hu0⟩
  ·simp only[Zjg hw ht,if_true]
   obtain⟨p,m',⟨rfl,rfl⟩,hg⟩:=Jv hk PN (λr hr EB=>by
    rcases De _ EB with h|⟨j,hj,h3,h4⟩
    ·have:wd*i+r<wd*i+wd:=YG
     omega
    ·have Cl:j=i:=by
      rcases W1 j i with h|h|h
      ·have:wd*j+wd<=wd*i:=by
        have:=Nat.mul_le_mul_left wd (show j+1<=i by omega)
        rw[Nat.mul_add]at this;omega
       omega
      ·exact h
      ·have:wd*i+wd<=wd*j:=by
        have:=Nat.mul_le_mul_left wd (show i+1<=j by omega)
        rw[Nat.mul_add]at this;omega
       omega
     subst Cl;rw[D0]at hj;cases hj) ht hp
   refine .inl (hg _ _ λx w' E' k1 k2 k3 k4=>ih _ _ w' E' (by simpa using hs) YG ?_ ?_ (λb hb=>k2.S b (h1 b hb)) ?_ (hdd x) ?_ (λl hl=>?_) (hJ _ _ _ _ k2 hjE))
   ·rw[Fs];exact ZkC
   ·rw[Fs,hMi];exact k1
   ·exact Zgk hk h2 k2
   ·rw[Fs,hTi,xu.ad];exact(ht.ext k2).put k3 o.dst
   ·have Dc:(cB.setIfInBounds i ZC).getD i ZD=true:=by simp[Xw,Vl]
    have ZeG:∀j,cB.getD j ZD=ZC->(cB.setIfInBounds i ZC).getD j ZD=true:=λj hj=>by
     have this:(cB.setIfInBounds i ZC).getD j ZD=ins L i j:=congrFun Fs j;rw[this];simp only[ins]
     split
     ·rfl
     ·exact hj
    rcases k4 l hl with h|h
    ·rcases De l h with h|⟨j,hj,h3⟩
     ·exact .inl h
     ·exact .inr ⟨j,ZeG j hj,h3⟩
    ·exact .inr ⟨i,Dc,h⟩
  ·simp only[Zck hw ht,Bool.false_eq_true,if_false]
   refine ih _ _ w E (by simpa using hs) YG ?_ ?_ h1 h2 (hdd _) ?_ (λl hl=>?_) hjE
   ·rw[Fs];exact ZkC
   ·rw[Fs,hMi,hu0];exact hk
   ·rw[Fs,hTi,xu.ad,hp];exact ht.put (.c .ud) o.dst
   ·have ZeG:∀j,cB.getD j ZD=ZC->(cB.setIfInBounds i ZC).getD j ZD=true:=λj hj=>by
     have this:(cB.setIfInBounds i ZC).getD j ZD=ins L i j:=congrFun Fs j;rw[this];simp only[ins]
     split
     ·rfl
     ·exact hj
    rcases De l hl with h|⟨j,hj,h3⟩
    ·exact .inl h
    ·exact .inr ⟨j,ZeG j hj,h3⟩
end
end
def dropped(ρ:Nat->Option Nat)(m':Mem)(k:Nat):Prop:=∀l,wW m' l=ZC->ρ l≠ZA k
def ZiW(es:List (List PV)):Prop:=∀cs∈es,∀q∈cs,uW q=ZC
inductive qq(ρ:Nat->Option Nat)(m m':Mem):PV->PV->Prop
 |un (p:PV):qq ρ m m' p .un
 |c (p:PV) (h:uW p=ZC):qq ρ m m' p p
 |ms (l k:Nat) (h:ρ l=ZA k) (hl:l<m'.length):qq ρ m m' (.ms k) (.ms l)
 |ss (l k a b:Nat) (h:ρ l=ZA k) (hl:l<m'.length):qq ρ m m' (.ss k a b) (.ss l a b)
 |be (l k i o:Nat) (h:ρ l=ZA k) (hl:l<m'.length):qq ρ m m' (.be k i o) (.be l i o)
 |ZjD (l:Nat) (h:ρ l=ZB) (hl:l<m'.length):qq ρ m m' (.v (.slice ZB 0 0)) (.ms l)
 |VC (c:Nat):qq ρ m m' (.v (.slice ZB 0 c)) (.sl [])
 |fms (k:Nat) (mb:MB) (hm:m[k]?=ZA (ZA mb)) (hc:ZiW mb.es) (hd:dropped ρ m' k):qq ρ m m' (.ms k) (.sl mb.es)
 |fss (k a b:Nat) (mb:MB) (hm:m[k]?=ZA (ZA mb)) (hc:ZiW mb.es) (hd:dropped ρ m' k):qq ρ m m' (.ss k a b) (.sl ((mb.es.drop a).take (b-a)))
 |fbe (k i o:Nat) (mb:MB) (cs:List PV) (hm:m[k]?=ZA (ZA mb)) (hi:mb.es[i]?=ZA cs) (hc:∀q∈cs,uW q=ZC) (hd:dropped ρ m' k):qq ρ m m' (.be k i o) (.rp (cs.drop o))
 |fn (f:FuncId) (cs ds:List PV) (hl:ds.length=cs.length) (h:∀(j:Nat) (p r:PV),cs[j]?=ZA p->ds[j]?=ZA r->qq ρ m m' p r):qq ρ m m' (.fn f cs) (.fn f ds)
def uw(ρ:Nat->Option Nat)(m m':Mem):List PV->List PV->Prop
 | [],[]=>True
 |p::ps,r::rs=>qq ρ m m' p r/\uw ρ m m' ps rs
 |_,_=>False
inductive L7(ρ:Nat->Option Nat)(m m':Mem):PV->PV->Prop
 |c {p r:PV} (h:qq ρ m m' p r):L7 ρ m m' p r
 |ag (cs ds:List PV) (h:uw ρ m m' cs ds):L7 ρ m m' (.ag cs) (.ag ds)
def Iq(ρ:Nat->Option Nat)(m m':Mem):List PV->List PV->Prop
 | [],[]=>True
 |p::ps,r::rs=>L7 ρ m m' p r/\Iq ρ m m' ps rs
 |_,_=>False
inductive J6(ρ:Nat->Option Nat)(m m':Mem):PV->PV->Prop
 |a {p r:PV} (h:L7 ρ m m' p r):J6 ρ m m' p r
 |tu (cs ds:List PV) (h:Iq ρ m m' cs ds):J6 ρ m m' (.tu cs) (.tu ds)
def J9(ρ:Nat->Option Nat)(m m':Mem):List PV->List PV->Prop
 | [],[]=>True
 |p::ps,r::rs=>J6 ρ m m' p r/\J9 ρ m m' ps rs
 |_,_=>False
def CI(ρ:Nat->Option Nat)(m m':Mem):List (List PV)->List (List PV)->Prop
 | [],[]=>True
 |p::ps,r::rs=>uw ρ m m' p r/\CI ρ m m' ps rs
 |_,_=>False
def ZmB(ρ:Nat->Option Nat)(m m':Mem)(mb nZ:MB):Prop:=
 nZ.T.t=mb.T.t/\nZ.k=mb.k/\((nZ.es=mb.es/\ZiW mb.es)\/CI ρ m m' mb.es nZ.es)
def ZjP(m:Mem)(k:Nat)(q:Key):Prop:=∃(l:Nat) (mb:MB) (T:TypeId) (i:Nat) (cs:List PV) (j:Nat),m[l]?=ZA (ZA mb)/\mb.T.kd=ZA T/\mb.es[i]?=ZA cs/\cs[j]?=ZA (PV.ms k)/\q=(mb.T.t,i,j)
def AdU(m:Mem)(k:Nat)(q:Key):Prop:=ZjP m k q/\∀q',ZjP m k q'->q'=q
def Zbl(ρ:Nat->Option Nat)(m m':Mem)(mb nZ:MB):Prop:=
 ∀T,nZ.T.kd=ZA T->∀(i:Nat) (ds:List PV) (j:Nat) (es:List (List PV)),nZ.es[i]?=ZA ds->ds[j]?=ZA (.sl es)->es≠[]->
  (mb.T.kd=ZA T/\∃cs,mb.es[i]?=ZA cs/\cs[j]?=ZA (.sl es))\/
  ∃cs k mk,mb.es[i]?=ZA cs/\cs[j]?=ZA (.ms k)/\AdU m k (mb.T.t,i,j)/\m[k]?=ZA (ZA mk)/\mk.T.t=T/\mk.es=es/\dropped ρ m' k
structure Zl6(n0:Nat)(ρ:Nat->Option Nat)(m m':Mem):Prop where
 row:∀l nZ,m'[l]?=ZA (ZA nZ)->(∃k mb,ρ l=ZA k/\m[k]?=ZA (ZA mb)/\ZmB ρ m m' mb nZ/\Zbl ρ m m' mb nZ)\/(ρ l=ZB/\nZ.es=[]/\0<nZ.k)
 inj:∀l l' k,wW m' l=ZC->wW m' l'=ZC->ρ l=ZA k->ρ l'=ZA k->l=l'
 low:∀l,l<n0->wW m' l=ZC->ρ l=ZA l
 n0:n0<=m'.length
def Cut(n0:Nat)(t:List PV)(m:Mem)(t':List PV)(m':Mem):Prop:=∃ρ:Nat->Option Nat,J9 ρ m m' t t'/\Zl6 n0 ρ m m'
inductive tz(n0:Nat):List PV->Mem->List PV->Mem->Prop
 |one {t m t' m'} (h:Cut n0 t m t' m'):tz n0 t m t' m'
 |two {t m t1 m1 t' m'} (h:Cut n0 t m t1 m1) (h':tz n0 t1 m1 t' m'):tz n0 t m t' m'
def uO(K:List PV->Mem->Prop)(Q:Exit->List PV->Mem->Prop):Exit->List PV->Mem->Prop
 |.normal,t,m=>K t m
 |e,t,m=>Q e t m
def zh(id:Nat)(Q:Exit->List PV->Mem->Prop):Exit->List PV->Mem->Prop
 |.exit i,t,m=>if i=id then Q .normal t m else Q (.exit i) t m
 |e,t,m=>Q e t m
def Zlr(P:Program)(draw:Bool)(ops:Array Oper)(K:List PV->Mem->Prop)(t:List PV)(m:Mem):Prop:=
 match draw with
 |false=>vp P ops K ops.toList t m
 |true=>P.follows .mixedOrders=ZC/\∃wd fl,0<wd/\kj P wd m.length fl ops (λg t m=>Sw ops.toList g=ZC/\K t m) 0 ops.toList [] t m
def tp(P:Program)(n0:Nat):Code->(Exit->List PV->Mem->Prop)->List PV->Mem->Prop
 |.skip,Q,t,m=>Q .normal t m
 |.seq a b,Q,t,m=>tp P n0 a (uO (λt m=>tp P n0 b Q t m) Q) t m
 |.cond c x y,Q,t,m=>match fS t c with
  |.v (.bool b)=>if b=ZC then tp P n0 x Q t m else tp P n0 y Q t m
  |_=>False
 |.block id c,Q,t,m=>tp P n0 c (zh id Q) t m
 |.loop c,Q,t,m=>∃(I:Nat->List PV->Mem->Prop) (n:Nat) (t0:List PV) (m0:Mem),tz n0 t m t0 m0/\I n t0 m0/\∀n t m,I n t m->tp P n0 c (uO (λt m=>∃k t' m',k<n/\tz n0 t m t' m'/\I k t' m') Q) t m
 |.exit i,Q,t,m=>Q (.exit i) t m
 |.ret,Q,t,m=>Q .ret t m
 |.region _ ops draw,Q,t,m=>Zlr P draw ops (Q .normal) t m\/∃t1 m1,tz n0 t m t1 m1/\Zlr P draw ops (Q .normal) t1 m1
 |_,_,_,_=>False
structure Fr where
 w0:World
 O:Nat->Prop
 β0:Nat->Option cL
 n0:Nat
 S0:Nat->Prop
 ω0:Nat->Key->Prop
def uv(F:Fr)(t:List PV)(m:Mem)(a:Act)(w:World):Prop:=
 ∃E,Ok F.w0 F.O E w m/\(∀b,F.S0 b->E.S b)/\SBd F.S0 F.ω0 F.w0 F.O E/\(∀l B,l<F.n0->E.β l=ZA B->F.β0 l=ZA B)/\(∀l,l<F.n0->E.used l)/\a.defers=[]/\uP w E t a.tmps
section
variable {w:World} {O:Nat->Prop} {E:Env} {w0:World} {m m':Mem} {P:Program} {ρ:Nat->Option Nat} {n0:Nat} {F:Fr}
def vM(E:Env)(m:Mem)(ρ:Nat->Option Nat)(m':Mem):Env:=
 { S:=λb=>E.S b\/∃k B,E.β k=ZA B/\B.z=ZD/\B.b=b/\dropped ρ m' k
   β:=λl=>match m'[l]? with
    |some (ZA nZ)=>match ρ l with
     |some k=>E.β k
     |none=>ZA ⟨0,0,0,nZ.k,nZ.T.t,ZC⟩
    |_=>ZB
   used:=λl=>l<m'.length
   ω:=λb q=>E.ω b q\/∃k B,E.β k=ZA B/\B.z=ZD/\B.b=b/\dropped ρ m' k/\AdU m k q}
theorem ka{B:cL}(h:(vM E m ρ m').β l=ZA B):wW m' l=ZC/\((∃k,ρ l=ZA k/\E.β k=ZA B)\/(ρ l=ZB/\B.z=ZC)):=by
 simp only[vM]at h
 split at h
 ·rename_i nZ hm
  refine⟨xL.2 ⟨nZ,hm⟩,?_⟩
  grind
 grind
theorem Zbk{B:cL}(hB:(vM E m ρ m').β l=ZA B)(hn:ρ l=ZB):B.sv=.slice ZB 0 0:=by
 rcases(ka hB).2 with⟨k,h,_⟩ |⟨_,h⟩
 ·grind
 ·simp[cL.sv,h]
theorem Ir(hk:Ok w0 O E w m)(h:qq ρ m m' p r):∀{x:Value},cN w E p x->cN w (vM E m ρ m') r x:=by
 induction h with
 |un p=>intro x hx;exact .un' x
 |c p h=>intro x hx;exact .c ((hx.toC h).all λb hb=>.inl hb)
 |ms l k h hl=>
  intro x hx
  cases hx with
  |c h=>cases h
  |ms _ _ _ h1 h2=>
   refine .ms _ _ hl h1 λB hB=>?_
   rcases(ka hB).2 with⟨k',e,lB⟩ |⟨e,_⟩
   all_goals grind
 |ss l k a b h hl=>
  intro x hx
  cases hx with
  |c h=>cases h
  |ss _ _ _ _ _ h1 h2=>
   refine .ss _ _ _ _ hl h1 λB hB=>?_
   rcases(ka hB).2 with⟨k',e,lB⟩ |⟨e,_⟩
   all_goals grind
 |be l k i o h hl=>
  intro x hx
  cases hx with
  |c h=>cases h
  |be _ _ _ _ _ h1 h2=>
   refine .be _ _ _ _ hl h1 λB hB=>?_
   rcases(ka hB).2 with⟨k',e,lB⟩ |⟨e,_⟩
   all_goals grind
 |ZjD l h hl=>
  intro x hx;obtain⟨rfl,h1⟩:=hx.cF;exact .ms _ _ hl h1 λB hB=>(Zbk hB h).symm
 |VC c=>
  intro x hx;obtain⟨rfl,_⟩:=hx.cF;exact .c (.nil ZB c)
 |fms k mb hm hc hd=>
  intro x hx;obtain⟨B,hB,hb,rfl⟩:=hx.ln hk hm;exact .c (Hc hB hb hc (λb hb=>.inl hb) λhz=>.inr ⟨k,B,hB,hz,rfl,hd⟩)
 |fss k a b mb hm hc hd=>
  intro x hx;obtain⟨B,hB,hb,A,c,rfl,IJ,hbn,hA⟩:=hx.EZ hk hm;exact .c (JD hB hb hc (λb hb=>.inl hb) (λhz=>.inr ⟨k,B,hB,hz,rfl,hd⟩) IJ hbn hA)
 |fbe k i o mb cs hm hi hc hd=>
  intro x hx;obtain⟨B,hB,hb,hz,rfl⟩:=hx.HJ hk hm;obtain⟨cells,m1,m2,m3⟩:=hb.mem hz;have hex:∀j:Nat,∃u:Value,∀p,cs[o+j]?=ZA p->cells[i*B.k+(o+j)]?=ZA u/\u.oneCell'=ZC/\cf w (vM E m ρ m').S p u:=by
   intro j
   cases hj:cs[o+j]? with
   |none=>simp
   |some p=>
    obtain⟨u,u1,u2,u3⟩:=m3 i cs (o+j) p hi hj;refine⟨u,λp' h=>?_⟩
    simp at h
    subst h;exact⟨u1,u2,(u3.toC (hc p (VI hj))).all λb hb=>.inl hb⟩
  obtain⟨f,hf⟩:=WR hex;refine .c (.rp _ B.b (i*B.k+o) f (.inr ⟨k,B,hB,hz,rfl,hd⟩) (λj p hj=>?_) (λj p hj=>?_) λj p hj=>?_)
  ·rw[cell_of_row w B.b _ cells B.T (0,0) m1,Xv];simp_all
  all_goals grind
 |fn f cs ds hl h ih=>
  intro x hx;obtain⟨vs,rfl,hvl,hr⟩:=hx.Mt;refine .fn f ds vs YG λj r x hr' vQ=>?_
  grind
theorem xy:∀{ps rs:List PV},uw ρ m m' ps rs->rs.length=ps.length/\∀(j:Nat) (r:PV),rs[j]?=ZA r->∃p,ps[j]?=ZA p/\qq ρ m m' p r
 | [],[],_=>⟨rfl,by simp⟩
 | [],_::_,h=>h.elim
 |_::_,[],h=>h.elim
 |p::ps,r::rs,h=>by
  obtain⟨h1,h2⟩:=xy h.2;refine⟨by grind,λj q hq=>?_⟩
  cases j with
  |zero=>obtain rfl:r=q:=by grind
         exact⟨p,rfl,h.1⟩
  |succ j=>grind
theorem O3(hk:Ok w0 O E w m)(h:L7 ρ m m' p r){x:Value}(hx:cN w E p x):cN w (vM E m ρ m') r x:=by
 cases h with
 |c h=>exact Ir hk h hx
 |ag cs ds h=>
  obtain⟨vs,rfl,hl,h1,hr⟩:=hx.pb;obtain⟨e1,e2⟩:=xy h;refine .ag _ vs YG h1 λj r x hr' vQ=>?_
  obtain⟨p,hp,hc⟩:=e2 j r hr';exact Ir hk hc (hr j p x hp vQ)
theorem KP:∀{ps rs:List PV},Iq ρ m m' ps rs->rs.length=ps.length/\∀(j:Nat) (r:PV),rs[j]?=ZA r->∃p,ps[j]?=ZA p/\L7 ρ m m' p r
 | [],[],_=>⟨rfl,by simp⟩
 | [],_::_,h=>h.elim
 |_::_,[],h=>h.elim
 |p::ps,r::rs,h=>by
  obtain⟨h1,h2⟩:=KP h.2;refine⟨by grind,λj q hq=>?_⟩
  cases j with
  |zero=>obtain rfl:r=q:=by grind
         exact⟨p,rfl,h.1⟩
  |succ j=>grind
theorem Zd2(hk:Ok w0 O E w m)(h:J6 ρ m m' p r){x:Value}(hx:cN w E p x):cN w (vM E m ρ m') r x:=by
 cases h with
 |a h=>exact O3 hk h hx
 |tu cs ds h=>
  obtain⟨vs,rfl,hl,hr⟩:=hx.Ck;obtain⟨e1,e2⟩:=KP h;refine .tu _ vs YG λj r x hr' vQ=>?_
  obtain⟨p,hp,hc⟩:=e2 j r hr';exact O3 hk hc (hr j p x hp vQ)
theorem O8:∀{ps rs:List PV},J9 ρ m m' ps rs->rs.length=ps.length/\∀(j:Nat) (r:PV),rs[j]?=ZA r->∃p,ps[j]?=ZA p/\J6 ρ m m' p r
 | [],[],_=>⟨rfl,by simp⟩
 | [],_::_,h=>h.elim
 |_::_,[],h=>h.elim
 |p::ps,r::rs,h=>by
  obtain⟨h1,h2⟩:=O8 h.2;refine⟨by grind,λj q hq=>?_⟩
  cases j with
  |zero=>obtain rfl:r=q:=by grind
         exact⟨p,rfl,h.1⟩
  |succ j=>grind
theorem vL:∀{ps rs:List (List PV)},CI ρ m m' ps rs->rs.length=ps.length/\∀(j:Nat) (r:List PV),rs[j]?=ZA r->∃p,ps[j]?=ZA p/\uw ρ m m' p r
 | [],[],_=>⟨rfl,by simp⟩
 | [],_::_,h=>h.elim
 |_::_,[],h=>h.elim
 |p::ps,r::rs,h=>by
  obtain⟨h1,h2⟩:=vL h.2;refine⟨by grind,λj q hq=>?_⟩
  cases j with
  |zero=>obtain rfl:r=q:=by grind
         exact⟨p,rfl,h.1⟩
  |succ j=>grind
theorem Ok.cut(hk:Ok w0 O E w m)(h:Zl6 n0 ρ m m'):Ok w0 O (vM E m ρ m') w m':=by
 refine⟨hk.up,?_,λl B hB hz=>?_,λl l' B B' hB lB hz vF e=>?_,λl hl=>hl,λl B hB=>?_,λl nZ Kg=>?_,λl B hB=>xL.1 (ka hB).1,hk.tab,λb q hq=>?_⟩
 ·rintro b (hb|⟨k,B,hB,hz,rfl,_⟩)
  ·exact hk.sz b hb
  ·exact(hk.own k B hB hz).2.1
 ·obtain⟨hl,⟨k,e,lB⟩ |⟨_,vF⟩⟩:=ka hB
  ·obtain⟨a,b,c⟩:=hk.own k B lB hz
   refine⟨a,b,?_⟩;rintro(hS|⟨k2,B2,hB2,hz2,e2,Bt⟩)
   ·grind
   ·have:=hk.inj k k2 B B2 lB hB2 hz hz2 e2.symm
    subst this;exact Bt l hl e
  grind
 ·obtain⟨hl,⟨k,e1,h1⟩ |⟨_,h1⟩⟩:=ka hB
  ·obtain⟨PJ,⟨k',e2,h2⟩ |⟨_,h2⟩⟩:=ka lB
   ·have:=hk.inj k k' B B' h1 h2 hz vF e
    subst this;exact h.inj l l' k hl PJ e1 e2
   grind
  grind
 ·have:=(ka hB).1
  obtain⟨mb,hm⟩:=xL.1 this;exact(VH.1 hm).1
 ·rcases h.row l nZ Kg with⟨k,mb,hρ,hm,⟨hT,J5,zq⟩,Zpq⟩ |⟨hρ,h0,gD⟩
  ·obtain⟨B,hB,hb⟩:=hk.mem k mb hm
   refine⟨B,by simp only[vM];grind,by rw[hb.k,J5],?_,by rw[hb.T,hT],hb.pos,hb.nc,hb.cm,?_,λhz=>?_,λhz=>?_,λT1 hT1 hz i ds j es x hi hj dX hcx=>?_⟩
   ·rcases zq with⟨e,_⟩ |he
    ·rw[hb.n,e]
    ·rw[hb.n,(vL he).1]
   ·intro i ds hi
    rcases zq with⟨e,_⟩ |he
    ·rw[e]at hi;exact hb.es i ds hi
    ·obtain⟨cs,gl,hc⟩:=(vL he).2 i ds hi
     rw[(xy hc).1];exact hb.es i cs gl
   ·have h0:=hb.nil hz
    rcases zq with⟨e,_⟩ |he
    ·grind
    ·have:=(vL he).1
     grind
   ·obtain⟨cells,m1,m2,m3⟩:=hb.mem hz
    refine⟨cells,m1,m2,λi ds j r hi hj=>?_⟩
    rcases zq with⟨e,xk⟩ |he
    ·rw[e]at hi
     obtain⟨x,x1,x2,x3⟩:=m3 i ds j r hi hj;exact⟨x,x1,x2,.c ((x3.toC (xk ds (VI hi) r (VI hj))).all λb hb=>.inl hb)⟩
    ·obtain⟨cs,gl,hc⟩:=(vL he).2 i ds hi
     obtain⟨p,hp,K6⟩:=(xy hc).2 j r hj;obtain⟨x,x1,x2,x3⟩:=m3 i cs j p gl hp;exact⟨x,x1,x2,Ir hk K6 x3⟩
   ·rw[hT]
    rcases Zpq T1 hT1 i ds j es hi hj dX with⟨g1,cs,g2,g3⟩ |⟨cs,kk,mk,g1,g2,g3,g4,g5,g6,g7⟩
    ·obtain⟨b,c,k',sm,a1,a2,a3⟩:=hb.key T1 g1 hz i cs j es x g2 g3 dX hcx
     exact⟨b,c,k',sm,a1,.inl a2,a3⟩
    ·obtain⟨Bk,hBk,Kb⟩:=hk.mem kk mk g4
     obtain⟨cells,m1,m2,m3⟩:=hb.mem hz;obtain⟨y,y1,y2,y3⟩:=m3 i cs j _ g1 g2;rw[cell_of_row w B.b _ cells B.T (0,0) m1]at hcx
     obtain rfl:y=x:=by grind
     obtain⟨B1,BK,_,rfl⟩:=y3.ln hk g4;obtain rfl:Bk=B1:=by grind
     have hz1:Bk.z=false:=Kb.Zjr YN;obtain⟨Zj0,n1,n2,n3⟩:=Kb.mem hz1;refine⟨Bk.b,Bk.c,Bk.k,Zj0,by rw[show Bk.sv=.slice (ZA ⟨Bk.b,0,ZB⟩) Bk.n Bk.c by simp[cL.sv,hz1],Kb.n,g6],.inr ⟨kk,Bk,hBk,hz1,rfl,g7,g3⟩,by rw[<-g5,<-Kb.T];omega,n2,Kb.pos,by rw[<-g6,<-Kb.n];exact Kb.nc,Kb.cm,λe he=>?_⟩
     rw[<-g6]at he
     obtain⟨i1,hi1⟩:=List.getElem?_of_mem he;exact Kb.es i1 e hi1
  ·refine⟨⟨0,0,0,nZ.k,nZ.T.t,ZC⟩,by simp only[vM];grind,rfl,by grind,rfl,gD,Nat.le_refl _,WG _,by grind,λ_=>h0,λh=>YT,λ_ _ h=>by cases h⟩
 ·rcases hq with hq|⟨k,B,hB,hz,rfl,hd,ha⟩
  ·refine⟨.inl (hk.ow b q hq).1,λq' Ki=>?_⟩
   rcases Ki with h'|⟨k,B,hB,hz,rfl,_⟩
   ·exact(hk.ow b q hq).2 q' h'
   ·exact absurd (hk.ow _ q hq).1 (hk.own k B hB hz).2.2
  ·refine⟨.inr ⟨k,B,hB,hz,rfl,hd⟩,λq' Ki=>?_⟩
   rcases Ki with h'|⟨k2,B2,hB2,hz2,e2,_,ha2⟩
   ·exact absurd (hk.ow _ q' h').1 (hk.own k B hB hz).2.2
   ·have:=hk.inj k2 k B2 B hB2 hB hz2 hz e2
    subst this;exact ha.2 q' ha2.1
theorem uv.cut{t t':List PV}{a:Act}(h:uv F t m a w)(hc:Cut F.n0 t m t' m'):uv F t' m' a w:=by
 obtain⟨E,hk,MR,GX,Bq,hu0,hd,ht⟩:=h;obtain⟨ρ,h1,h2⟩:=hc;obtain⟨e1,e2⟩:=O8 h1;refine⟨vM E m ρ m',hk.cut h2,λb hb=>.inl (MR b hb),⟨λb hb=>?_,λb q hb=>?_⟩,λl B hl hB=>?_,λl hl=>Nat.lt_of_lt_of_le hl h2.n0,hd,by rw[ht.1,e1],λi r hr=>?_⟩
 ·rcases hb with hb|⟨k,B,hB,hz,rfl,_⟩
  ·exact GX.1 b hb
  ·rcases(hk.own k B hB hz).1 with h|h
   all_goals grind
 ·rcases hb with hb|⟨k,B,hB,hz,rfl,_⟩
  ·exact GX.2 b q hb
  ·rcases(hk.own k B hB hz).1 with h|h
   all_goals grind
 ·obtain⟨vE,⟨k,e,lB⟩ |⟨e,_⟩⟩:=ka hB
  ·rw[h2.low l hl vE]at e
   grind
  ·rw[h2.low l hl vE]at e;cases e
 ·obtain⟨p,hp,CZ⟩:=e2 i r hr
  exact Zd2 hk CZ (ht.2 i p hp)
theorem uv.Zhf{t t':List PV}{a:Act}{n0:Nat}(hc:tz n0 t m t' m')(hn:F.n0=n0)(h:uv F t m a w):uv F t' m' a w:=by
 subst hn
 induction hc with
 |one hc=>exact h.cut hc
 |two hc _ ih=>exact ih (h.cut hc)
theorem Zc7{Q:Exit->Act->World->Prop}(I:Nat->Act->World->Prop)(round:∀n a w,I n a w->c.wp P (Exit.then (λa' w'=>∃k,k<n/\I k a' w') Q) a w){a:Act}{w:World}(h0:I n a w):(Code.loop c).wp P Q a w:=by
 intro b k cs;have key:∀n a w,I n a w->∃e a' w',Q e a' w'/\Arrives P (lone (b.at a (.code c::.inLoop c::k)) cs w) b k cs e a' w':=by
  intro n
  induction n using Nat.strongRecOn with
  |_ n ih=>
   intro a w hI;obtain⟨e,ZaW,Zc8,hq,PB⟩:=round n a w hI b (.inLoop c::k) cs
   cases e with
   |normal=>
    obtain⟨j,bO,ZmT⟩:=hq;obtain⟨ZoU,Zot,Zqw,Znm,ZhA⟩:=ih j bO ZaW Zc8 ZmT;exact⟨ZoU,Zot,Zqw,Znm,.of_steps (Steps.trans PB (.one step_inLoop)) ZhA⟩
   |exit id=>exact⟨_,ZaW,Zc8,hq,.pass (x:=.inLoop c) rfl (λ_ _=>.inl YJ) PB⟩
   |goto l=>exact⟨_,ZaW,Zc8,hq,.pass (x:=.inLoop c) rfl (λ_ _=>.inl YJ) PB⟩
   |ret=>exact⟨_,ZaW,Zc8,hq,.pass (x:=.inLoop c) rfl (λ_ _=>.inl YJ) PB⟩
   |panic ch=>exact⟨_,ZaW,Zc8,hq,.pass (x:=.inLoop c) rfl (λ_ _=>.inl YJ) PB⟩
   |outgrown=>exact⟨_,ZaW,Zc8,hq,.pass (x:=.inLoop c) rfl (λ_ _=>.inl YJ) PB⟩
 obtain⟨e,a',w',hq,PB⟩:=key n a w h0;exact⟨e,a',w',hq,.of_steps (.one step_loop) PB⟩
def Zfg(F:Fr)(Q:Exit->List PV->Mem->Prop):Exit->Act->World->Prop:=λe a w=>∃t m,Q e t m/\uv F t m a w
theorem LG{ops:Array Oper}{draw:Bool}{Q:Exit->List PV->Mem->Prop}{t:List PV}{m:Mem}{a:Act}{w:World}(h:Zlr P draw ops (Q .normal) t m)(hr:uv F t m a w):(Code.region id ops draw).wp P (Zfg F Q) a w:=by
 obtain⟨E,hk,MR,GX,Bq,hu0,hd,ht⟩:=hr
 cases draw with
 |false=>
  refine wp_region_list (Cd ops.toList t m E w a hk hd ht h ?_);intro t m E' w' a' hK h1 hx h2 h3;exact⟨t,m,hK,E',h1,λb hb=>hx.S b (MR b hb),Zgk hk GX hx,λl B hl hB=>Bq l B hl (hx.β l B (hu0 l hl) hB),λl hl=>hx.used l (hu0 l hl),h2,h3⟩
 |true=>
  obtain⟨hf,wd,fl,PN,hp⟩:=h;obtain⟨as_,gs,h1,h2,⟨Zpj,hK⟩,xu⟩:=Lz ops.toList 0 [] t m hp;have Kj:Zjk P wd ops.toList as_ gs t m:=⟨h1,h2,Zpj,λk o hko=>by
   simp_all⟩
  have hu:Ok F.w0 F.O E { w with drawn:=w.drawn+1} m/\Ext w { w with drawn:=w.drawn+1} E E:=hk.drew 1
  refine wp_region_any hf ?_;have hre:∀(j:Nat),(Xh ops.size ZD).getD j ZD=false:=λj=>by
   rw[Wv]
   grind
  have Zm9:(λj=>(Xh ops.size ZD).getD j ZD)=λ_=>false:=funext hre
  have key:=Pe (w0:=F.w0) (O:=F.O) (S0:=F.S0) (ω0:=F.ω0) PN Kj (J:=λE=>(∀l B,l<F.n0->E.β l=ZA B->F.β0 l=ZA B)/\∀l,l<F.n0->E.used l)
   (λw w' E E' hx hJ=>⟨λl B hl hB=>hJ.1 l B hl (hx.β l B (hJ.2 l hl) hB),λl hl=>hx.used l (hJ.2 l hl)⟩) (K:=Q .normal) (Q:=Zfg F Q) hK
   (λt m a w E hK hk h1 h2 hd ht hJ=>⟨t,m,hK,E,hk,h1,h2,hJ.1,hJ.2,hd,ht⟩) ops.size (Xh ops.size ZD) a _ E YJ (by
    unfold unl
    grind) (by
    intro j o hj hL
    simp_all) (by rw[Zm9,JM _ _ _ (λ_=>rfl)];exact hu.1) MR GX hd (by rw[Zm9,JO _ _ _ (λ_=>rfl)];exact ht.ext hu.2)
    (λl hl=>.inl (hk.used l hl)) ⟨Bq,hu0⟩
  omega
theorem tU:∀(c:Code) (Q:Exit->List PV->Mem->Prop) (t:List PV) (m:Mem) (a:Act) (w:World),tp P F.n0 c Q t m->uv F t m a w->c.wp P (Zfg F Q) a w
 |.skip,Q,t,m,a,w,h,hr=>wp_skip ⟨t,m,h,hr⟩
 |.seq x y,Q,t,m,a,w,h,hr=>by
  refine wp_seq (Code.wp_mono ?_ (tU x _ t m a w h hr));rintro e a w ⟨t,m,hq,hr⟩
  cases e with
  |normal=>exact tU y Q t m a w hq hr
  |_=>exact⟨t,m,hq,hr⟩
 |.cond c x y,Q,t,m,a,w,h,hr=>by
  simp only[tp]at h
  split at h
  ·rename_i b hb
   have hr':=hr;obtain⟨E,hk,_,_,_,_,hd,ht⟩:=hr';have hv:=CO ht c;rw[hb]at hv
   have hv:=hv.cF.1
   cases b with
   |true=>exact wp_cond_true hv (tU x Q t m a w YN hr)
   |false=>exact wp_cond_false hv (tU y Q t m a w YN hr)
  grind
 |.block id c,Q,t,m,a,w,h,hr=>by
  refine wp_block (Code.wp_mono ?_ (tU c _ t m a w h hr));rintro e a w ⟨t,m,hq,hr⟩
  cases e with
  |exit i=>
   simp only[Exit.inBlock];simp only[zh]at hq
   split
   ·rename_i hi;rw[if_pos hi]at hq;exact⟨t,m,hq,hr⟩
   ·rename_i hi;rw[if_neg hi]at hq;exact⟨t,m,hq,hr⟩
  |_=>exact⟨t,m,hq,hr⟩
 |.loop c,Q,t,m,a,w,h,hr=>by
  obtain⟨I,n,t0,m0,hcut,hI,SZ⟩:=h;refine Zc7 (λn a w=>∃t m,I n t m/\uv F t m a w) ?_ ⟨t0,m0,hI,uv.Zhf hcut rfl hr⟩
  rintro n a w ⟨t,m,hI,hr⟩;refine Code.wp_mono ?_ (tU c _ t m a w (SZ n t m hI) hr);rintro e a w ⟨t,m,hq,hr⟩
  cases e with
  |normal=>
   obtain⟨k,t',m',bO,hcut,hI⟩:=hq;exact⟨k,bO,t',m',hI,uv.Zhf hcut rfl hr⟩
  |_=>exact⟨t,m,hq,hr⟩
 |.exit i,Q,t,m,a,w,h,hr=>wp_exit ⟨t,m,h,hr⟩
 |.ret,Q,t,m,a,w,h,hr=>wp_ret ⟨t,m,h,hr⟩
 |.region id ops draw,Q,t,m,a,w,h,hr=>by
  rcases h with h|⟨t1,m1,hc,h⟩
  ·exact LG h hr
  ·exact LG h (uv.Zhf hc rfl hr)
 |.scope _,_,_,_,_,_,h,_=>h.elim
 |.label _,_,_,_,_,_,h,_=>h.elim
 |.goto _,_,_,_,_,_,h,_=>h.elim
 |.rangeFunc ..,_,_,_,_,_,h,_=>h.elim
 |.refuse _,_,_,_,_,_,h,_=>h.elim
def ZcQ(P:Program):List ResultVar->List PV->Mem->(List PV->Prop)->Prop
 | [],_,_,K=>K []
 |.tmp i::rest,t,m,K=>ZcQ P rest t m λps=>K (t.getD i .un::ps)
 |.cell i T::rest,t,m,K=>va P T (Si m (t.getD i .un)) λp=>ZcQ P rest t m λps=>K (p::ps)
def Zii:List PV->PV
 | [p]=>p
 |ps=>.tu ps
def Zlf:List Value->Value
 | [v]=>v
 |vs=>.tuple vs.toArray
theorem Cg(hk:Ok w0 O E w m){t:List PV}{a:Act}(ht:uP w E t a.tmps):∀(rs:List ResultVar) (K:List PV->Prop),ZcQ P rs t m K->
 ∃ps vs,K ps/\(rs.mapM fun(r:ResultVar)=>(match r with
  |.tmp t=>pure (a.tmps.getD t ZH)
  |.cell b T=>do loadVar T (<-asAddr (a.tmps.getD b ZH)):Sem Value)).run P w=.ok vs w/\vs.length=ps.length/\ps.length=rs.length/\∀(j:Nat) (p:PV) (x:Value),ps[j]?=ZA p->vs[j]?=ZA x->cN w E p x
 | [],K,h=>⟨[],[],h,by simp,rfl,rfl,by simp⟩
 |.tmp i::rest,K,h=>by
  obtain⟨ps,vs,hK,kn,hl,hl2,hr⟩:=Cg hk ht rest _ h;refine⟨_,a.tmps.getD i ZH::vs,hK,?_,by grind,by grind,λj p x hp hx=>?_⟩
  ·simp_all
  ·cases j with
   |zero=>
    simp only[List.getElem?_cons_zero,Option.some.injEq]at hp hx
    subst hp hx;exact CO ht (.tmp i)
   |succ j=>grind
 |.cell i T::rest,K,h=>by
  simp only[ZcQ]at h
  cases hp:Si m (t.getD i .un)with
  |none=>unfold va at h;grind
  |some cs=>
   rw[hp]at h
   obtain⟨b,off,hx,hb,hc⟩:=Zan hk (CO ht (.tmp i)) hp;obtain⟨p,v,hK,Znq,xl⟩:=Lu h hb hc;obtain⟨ps,vs,hK,kn,hl,hl2,hr⟩:=Cg hk ht rest _ hK;simp only[Act.eval]at hx
   refine⟨_,v::vs,hK,?_,by grind,by grind,λj p x hp hx=>?_⟩
   ·have Zpf:(asAddr (a.tmps.getD i ZH)).run P w=.ok ⟨b,off,ZB⟩ w:=by rw[hx];rfl
    simp only[List.mapM_cons,Sem.run_bind,Zpf,Result.andThen_ok,Znq w (Up.rfl' w)]
    simp_all
   grind
def Fin(P:Program)(n0:Nat)(rs:Array ResultVar)(r:PV)(m1:Mem)(t:List PV)(m:Mem):Prop:=ZcQ P rs.toList t m λps=>tz n0 [Zii ps] m [r] m1
theorem ZaS{t:List PV}{a:Act}(hr:uv F t m a w)(h:Fin P F.n0 fn.results r m1 t m):
 ∃v E',(results fn a.tmps).run P w=.ok v w/\Ok F.w0 F.O E' w m1/\(∀b,F.S0 b->E'.S b)/\SBd F.S0 F.ω0 F.w0 F.O E'/\(∀l B,l<F.n0->E'.β l=ZA B->F.β0 l=ZA B)/\cN w E' r v:=by
 obtain⟨E,hk,MR,GX,Bq,hu0,hd,ht⟩:=hr;obtain⟨ps,vs,hcut,kn,hl,hl2,hr⟩:=Cg hk ht _ _ h;have Gl:(results fn a.tmps).run P w=.ok (Zlf vs) w:=by
  unfold results;rw[Array.mapM_eq_mapM_toList,Sem.run_bind,Sem.run_map];refine(congrArg (λr=>(Result.andThen r fun(a:List Value) w'=>Result.ok a.toArray w').andThen _) kn).trans ?_
  match vs with
  | []=>rfl
  | [v]=>rfl
  |_::_::_=>rfl
 have hv0:cN w E (Zii ps) (Zlf vs):=by
  match vs,ps,hl with
  | [v],[p],_=>exact hr 0 p v rfl rfl
  | [],[],_=>exact .tu _ _ YJ YJ
  |v::v'::vs,p::p'::ps,hl=>exact .tu _ _ YG λj q x hq hx=>hr j q x hq YN
 generalize Zlf vs=v0 at Gl hv0
 have h0:uv F [Zii ps] m { tmps:=#[v0],defers:=[]} w:=by
  refine⟨E,hk,MR,GX,Bq,hu0,rfl,rfl,λi p hp=>?_⟩
  cases i with
  |zero=>
   simp_all
  |succ i=>grind
 obtain⟨E',k1,k2,k3,k4,_,_,k5⟩:=uv.Zhf hcut rfl h0;exact⟨_,E',Gl,k1,k2,k3,k4,k5.2 0 r rfl⟩
theorem jm{f:FuncId}(hf:P.funcs[f]?=ZA fn)(hb:fn.body=ZA c)(hn:fn.ntmps=n){rs:Array ResultVar}(hrs:fn.results=rs){args:List PV}
 (h:∀Q:Exit->List PV->Mem->Prop,(∀t m,Fin P m0.length rs r m1 t m->Q .ret t m)->(∀t m,Fin P m0.length rs r m1 t m->Q .normal t m)->tp P m0.length c Q (args++VW (n-args.length) .ud) m0):cq P f args m0 r m1:=by
 subst hn hrs;intro S β w vs ω hk hl hargs
 let F:Fr:=⟨w,mz β,β,m0.length,S,ω⟩
 have hr0:uv F (args++VW (fn.ntmps-args.length) .ud) m0 { tmps:=vs++Xh (fn.ntmps-vs.size) ZH,defers:=[]} w:=by
  refine⟨E1 S β m0.length ω,hk,λb hb=>hb,⟨λb hb=>.inl hb,λb q hb=>.inl hb⟩,λl B hl hB=>hB,λl hl=>hl,rfl,by grind,λi p hp=>?_⟩
  rcases Nat.lt_or_ge i args.length with hi|hi
  ·rw[Wi hi]at hp
   obtain⟨x,hx,hr⟩:=hargs i p hp;have hiv:i<vs.size:=YG;have e:(vs++Xh (fn.ntmps-vs.size) ZH).getD i ZH=x:=by
    rw[Wv,Array.getElem?_append_left hiv,hx];rfl
   grind
  ·rw[V9 hi]at hp
   have bO:=(VH.1 hp).1;rw[List.length_replicate]at bO
   rw[List.getElem?_replicate,if_pos bO]at hp
   cases hp
   have e:(vs++Xh (fn.ntmps-vs.size) ZH).getD i ZH=ZH:=by
    rw[Wv,Array.getElem?_append_right YG]
    grind
   rw[e];exact .c .ud
 refine calls_of_wp hf hb (Code.wp_mono ?_ (tU (F:=F) c (λe t m=>(e=.ret\/e=.normal)/\Fin P m0.length fn.results r m1 t m) _ _ _ w (h _ (λt m h=>⟨.inl rfl,h⟩) (λt m h=>⟨.inr rfl,h⟩)) hr0))
 rintro e a w' ⟨t,m,⟨he,yq⟩,hr⟩;have hd:a.defers=[]:=by obtain⟨_,_,_,_,_,_,hd,_⟩:=hr;omega
 obtain⟨v,E',kn,k1,k2,k3,k4,k5⟩:=ZaS hr yq;have key:bodyPost P fn (λe w'=>∃v E',e=.returned v/\Ok w (mz β) E' w' m1/\(∀b,S b->E'.S b)/\(∀b,E'.S b->S b\/w.heap.size<=b\/mz β b)/\((∀l B,l<m0.length->E'.β l=ZA B->β l=ZA B)/\∀b q,E'.ω b q->ω b q\/w.heap.size<=b\/mz β b)/\cN w' E' r v) .ret a w':=
  ⟨hd,v,kn,v,E',rfl,k1,k2,k3.1,⟨k4,k3.2⟩,k5⟩
 rcases he with rfl|rfl
 ·omega
 ·exact key
end
theorem dP{α:Sort _}{a b:α}(h:a=b):a=b:=h
abbrev vi(n:Int):PV:=.v (ZF ZG n)
abbrev v8(n:Int):PV:=.v (.int .u8 n)
abbrev vb(b:Bool):PV:=.v (.bool b)
abbrev vs(s:ByteArray):PV:=.v (.string s)
abbrev aH(n:Int):Int:=IntKind.i64.wrap n
/-! ### The other side: RT the code Zqe,as_ a function;an answer is ZB where Go Zre panic. -/
def dg(b:Bool):Option Unit:=cond b (ZA ()) ZB
def aA{α:Type}(xs:List α)(i:Int):Option α:=if 0<=i then xs[i.toNat]? else ZB
def Ka(s:ByteArray)(i:Int):Option Int:=if 0<=i/\i<s.size then ZA (H7 s i.toNat)else ZB
def bB(n bytes:Nat):Bool:=ZE (n<=1099511627776/\n*bytes<=140737488355328)
def iC(l h n:Int):Bool:=ZE (0<=l/\l<=h/\h<=n)
def cZ{α:Type}(xs:List α)(l h:Int):List α:=(xs.drop l.toNat).take (h.toNat-l.toNat)
def Zqh(s:ByteArray)(l h:Int):ByteArray:=s.extract l.toNat h.toNat
abbrev bm{σ ο δ:Type}(f:σ->δ)(g:ο->δ):σ⊕ο->δ
 |.inl a=>f a
 |.inr b=>g b
def aD{σ ο:Type}(body:σ->Option (σ⊕ο)):Nat->σ->Option ο
 |0,_=>ZB
 |n+1,s=>(body s).bind (bm (aD body n) ZA)
def NN:Nat:=1152921504606846976
section
variable {α β γ δ σ ο:Type}
theorem H0{x:Option α}{r:α}(h:x=ZA r):x.bind ZA=ZA r:=by rw[h];rfl
theorem Hc1{b:Bool}{A B:Option α}{K:α->Option β}{r:β}(h:(cond b A B).bind K=ZA r)(hb:b=ZC):A.bind K=ZA r:=by subst hb;exact h
theorem Hc2{b:Bool}{A B:Option α}{K:α->Option β}{r:β}(h:(cond b A B).bind K=ZA r)(hb:b=ZD):B.bind K=ZA r:=by subst hb;exact h
theorem Hn{x:Option α}{F:α->Option β}{K:β->Option γ}{r:γ}(h:(x.bind F).bind K=ZA r):∃a,x=ZA a/\(F a).bind K=ZA r:=by
 cases x with
 |none=>cases h
 |some a=>exact⟨a,rfl,h⟩
theorem ZgK{b:Bool}{F:Unit->Option β}{K:β->Option γ}{r:γ}(h:((dg b).bind F).bind K=ZA r):b=ZC/\(F ()).bind K=ZA r:=by
 cases b with
 |false=>cases h
 |true=>exact⟨rfl,h⟩
theorem Hlp{x:Option ο}{G:ο->Option β}{K:β->Option γ}{r:γ}(h:(x.bind G).bind K=ZA r):x.bind (λo=>(G o).bind K)=ZA r:=by
 cases x with
 |none=>cases h
 |some a=>exact h
theorem Hrd{body:σ->Option (σ⊕ο)}{s:σ}{K:ο->Option β}{r:β}(h:(aD body (n+1) s).bind K=ZA r):(body s).bind (bm (λs'=>(aD body n s').bind K) K)=ZA r:=by
 unfold aD at h
 cases hb:body s with
 |none=>rw[hb]at h;cases h
 |some o=>
  rw[hb]at h
  cases o with
  |inl s'=>exact h
  |inr o=>exact h
theorem Hno{body:σ->Option (σ⊕ο)}{s:σ}{K:ο->Option β}{r:β}(h:(aD body 0 s).bind K=ZA r):False:=by cases h
theorem Zoo{a r:α}(h:ZA a=ZA r):a=r:=Option.some.inj h
end
class CT(P:Program){R:Type}(x:Option R) where
 f:FuncId
 args:List PV
 m0:Mem
 res:R->PV
 mem:R->Mem
 ok:∀{r:R},x=ZA r->cq P f args m0 (res r) (mem r)
class bj{σ ο:Type}(body:σ->Option (σ⊕ο)) where
 T:σ->List PV
 M:σ->Mem
class dB{α:Type}(f:α->List PV):Prop where
 h:∀x,∀q∈f x,uW q=ZC
class tr{α:Type}(f:α->List PV):Prop where
 h:∀x,∀q∈f x,PY q=ZC
/-! ### The Zqu ZcR. -/
def U:Nat->List PV->List PV
 |0,l=>l
 |n+1,l=>.un::U n l
theorem U_z(l:List PV):U 0 l=l:=dP rfl
theorem U_s(n:Nat)(l:List PV):U (n+1) l=.un::U n l:=dP rfl
theorem ZnT(a b:PV)(as_:List PV):(a::as_).set 0 b=b::as_:=dP rfl
theorem ZnS(a b:PV)(as_:List PV)(n:Nat):(a::as_).set (n+1) b=a::as_.set n b:=dP rfl
theorem Zet(a d:PV)(as_:List PV):(a::as_).getD 0 d=a:=dP rfl
theorem Zes(a d:PV)(as_:List PV)(n:Nat):(a::as_).getD (n+1) d=as_.getD n d:=dP rfl
theorem ZnL{α:Type}(a:α)(as_:List α):(a::as_)[0]?=ZA a:=dP rfl
theorem ZnK{α:Type}(a:α)(as_:List α)(n:Nat):(a::as_)[n+1]?=as_[n]?:=dP rfl
theorem ZnJ{α:Type}(as_:List α)(n:Nat):as_.toArray[n]?=as_[n]?:=dP YJ
section
variable {P:Program} {ops:Array Oper} {K:List PV->Mem->Prop} {KD:List LE->List PV->Mem->Prop} {rest:List Oper} {t:List PV} {m:Mem} {d:Option Tmp} {o:Op} {ty:TypeId} {pos:String} {af:Array Edge} {j:Nat} {b:Bool} {KA:PV->Mem->Prop} {KR:PV->Prop} {io:Bool} {wd ν base i:Nat} {g:List LE} {fl:List Nat}
def nxt(P:Program)(ops:Array Oper)(K:List PV->Mem->Prop)(rest:List Oper)(t:List PV)(d:Option Tmp)(p:PV)(m:Mem):Prop:=vp P ops K rest (jk t d p) m
def OD(K:PV->Mem->Prop)(m:Mem)(p:PV):Prop:=K p m
def rgo(P:Program)(ops:Array Oper)(K:List PV->Mem->Prop)(rest:List Oper)(d:Option Tmp)(o:Op)(m:Mem)(t:List PV):Prop:=je P ZC 16 m.length o t m (nxt P ops K rest t d)
def pgo(P:Program)(ops:Array Oper)(K:List PV->Mem->Prop)(rest:List Oper)(d:Option Tmp)(m:Mem)(t:List PV):Prop:=vp P ops K rest (jk t d .ud) m
def xE(c:Bool)(y n:List PV->Prop)(t:List PV)(i:Nat):Prop:=gate c (y (t.set i (.v (.bool ZC)))) (n (t.set i (.v (.bool ZD))))
def gdV(p:PV)(i:Nat)(t:List PV)(b:Bool)(run pass:List PV->Prop):Prop:=
 match p,b with
 |.v (.bool c),ZC=>xE c run pass t i
 |.v (.bool c),ZD=>xE c pass run t i
 |.ud,_=>pass t
 |_,_=>False
def gd(d:Option Tmp)(t:List PV)(b:Bool)(run pass:List PV->Prop):Prop:=
 match d with
 |none=>pass t
 |some d=>gdV (t.getD d .un) d t b run pass
theorem Zac:nxt P ops K rest t d p m=vp P ops K rest (jk t d p) m:=dP rfl
theorem UW:OD KA m p=KA p m:=dP rfl
theorem ZiR:rgo P ops K rest d o m t=je P ZC 16 m.length o t m (nxt P ops K rest t d):=dP rfl
theorem Ziy:pgo P ops K rest d m t=vp P ops K rest (jk t d .ud) m:=dP rfl
theorem Zer{y n:List PV->Prop}{i:Nat}:xE ZC y n t i=y (t.set i (.v (.bool ZC))):=by simp[xE,gate]
theorem Zeq{y n:List PV->Prop}{i:Nat}:xE ZD y n t i=n (t.set i (.v (.bool ZD))):=by simp[xE,gate]
theorem Pt{c:Bool}{y n:List PV->Prop}{i:Nat}(h1:c=ZC->y (t.set i (.v (.bool ZC))))(h2:c=ZD->n (t.set i (.v (.bool ZD)))):xE c y n t i:=⟨h1,h2⟩
theorem ZfV:vp P ops K [] t m=K t m:=dP rfl
theorem ZiA:vp P ops K (⟨d,o,ty,pos,af,ZB⟩::rest) t m=je P ZC 16 m.length o t m (nxt P ops K rest t d):=dP rfl
theorem Ziz:vp P ops K (⟨d,o,ty,pos,af,ZA (j,b)⟩::rest) t m=gd ((ops[j]?).bind (·.dst)) t b (rgo P ops K rest d o m) (pgo P ops K rest d m):=by
 cases h:(ops[j]?).bind (·.dst)with
 |none=>simp only[vp,h,gd,pgo]
 |some d'=>
  simp only[vp,h,gd];generalize t.getD d' .un=p
  cases p with
  |v x=>cases x<;>cases b<;>rfl
  |_=>cases b<;>rfl
/-! ZqD the order is drawn. -/
def nxd(P:Program)(wd base:Nat)(fl:List Nat)(ops:Array Oper)(K:List LE->List PV->Mem->Prop)(i:Nat)(rest:List Oper)(g:List LE)(t:List PV)(d:Option Tmp)(p:PV)(m:Mem):Prop:=kj P wd base fl ops K i rest g (jk t d p) m
def rgd(P:Program)(wd base:Nat)(fl:List Nat)(ops:Array Oper)(K:List LE->List PV->Mem->Prop)(i:Nat)(rest:List Oper)(g:List LE)(oo:Oper)(m:Mem)(t:List PV):Prop:=
 je P ZD wd (base+wd*i) oo.op t m (nxd P wd base fl ops K (i+1) rest (g++[Tn ops oo t wd (base+wd*i)]) t oo.dst)
def pgd(P:Program)(wd base:Nat)(fl:List Nat)(ops:Array Oper)(K:List LE->List PV->Mem->Prop)(i:Nat)(rest:List Oper)(g:List LE)(oo:Oper)(m:Mem)(t:List PV):Prop:=kj P wd base fl ops K (i+1) rest (g++[le0 ops oo]) (jk t oo.dst .ud) m
def nxe(P:Program)(wd base:Nat)(fl:List Nat)(ops:Array Oper)(K:List LE->List PV->Mem->Prop)(i:Nat)(rest:List Oper)(g:List LE)(oo:Oper)(ν:Nat)(t:List PV)(ρ:List Nat)(p:PV)(m:Mem):Prop:=kj P wd base fl ops K i rest (g++[Zh1 ops oo ρ wd ν]) (jk t oo.dst p) m
def rge(P:Program)(wd base:Nat)(fl:List Nat)(ops:Array Oper)(K:List LE->List PV->Mem->Prop)(i:Nat)(rest:List Oper)(g:List LE)(oo:Oper)(m:Mem)(t:List PV):Prop:=
 if Ti fl i=ZC then TX P wd (base+wd*i) oo.op t m (nxe P wd base fl ops K (i+1) rest g oo (base+wd*i) t)else rgd P wd base fl ops K i rest g oo m t
theorem Zab{ν:Nat}{ρ:List Nat}:nxe P wd base fl ops KD i rest g oo ν t ρ p m=kj P wd base fl ops KD i rest (g++[Zh1 ops oo ρ wd ν]) (jk t oo.dst p) m:=dP rfl
theorem ZiQ:rge P wd base fl ops KD i rest g oo m t=if Ti fl i=ZC then TX P wd (base+wd*i) oo.op t m (nxe P wd base fl ops KD (i+1) rest g oo (base+wd*i) t)else rgd P wd base fl ops KD i rest g oo m t:=dP rfl
theorem ZeZ{i:Nat}:Ti [] i=false:=dP rfl
theorem ZbT{a i:Nat}{l:List Nat}:Ti (a::l) i=if a=i then ZC else Ti l i:=dP rfl
theorem Zcy{wd ν:Nat}{f:FuncId}{xs:List Operand}{K:List Nat->PV->Mem->Prop}:TX P wd ν (.call ⟨.value (.func f),xs.toArray,Ts⟩) t m K=(BW P f/\pIO P wd ν f (xs.map (fS t)) m K):=dP rfl
theorem Zaa:nxd P wd base fl ops KD i rest g t d p m=kj P wd base fl ops KD i rest g (jk t d p) m:=dP rfl
theorem Zcz:kj P wd base fl ops KD i [] g t m=KD g t m:=by unfold kj;rfl
theorem ZfU:kj P wd base fl ops KD i (⟨d,o,ty,pos,af,ZB⟩::rest) g t m=rge P wd base fl ops KD i rest g ⟨d,o,ty,pos,af,ZB⟩ m t:=by rw[kj];rfl
theorem ZfT:kj P wd base fl ops KD i (⟨d,o,ty,pos,af,ZA (j,b)⟩::rest) g t m=gd ((ops[j]?).bind (·.dst)) t b (rgd P wd base fl ops KD i rest g ⟨d,o,ty,pos,af,ZA (j,b)⟩ m) (pgd P wd base fl ops KD i rest g ⟨d,o,ty,pos,af,ZA (j,b)⟩ m):=by
 rw[kj]
 cases h:(ops[j]?).bind (·.dst)with
 |none=>simp only[h,gd,pgd]
 |some d'=>
  simp only[h,gd];generalize t.getD d' .un=p
  cases p with
  |v x=>cases x<;>cases b<;>rfl
  |_=>cases b<;>rfl
theorem ZiP:rgd P wd base fl ops KD i rest g oo m t=je P ZD wd (base+wd*i) oo.op t m (nxd P wd base fl ops KD (i+1) rest (g++[Tn ops oo t wd (base+wd*i)]) t oo.dst):=dP rfl
theorem Zix:pgd P wd base fl ops KD i rest g oo m t=kj P wd base fl ops KD (i+1) rest (g++[le0 ops oo]) (jk t oo.dst .ud) m:=dP rfl
theorem Zhu{i:Nat}{run pass:List PV->Prop}:gd (ZA i) t b run pass=gdV (t.getD i .un) i t b run pass:=dP rfl
theorem Zht{run pass:List PV->Prop}:gd ZB t b run pass=pass t:=dP rfl
theorem Zkm{i:Nat}{c:Bool}{run pass:List PV->Prop}:gdV (.v (.bool c)) i t ZC run pass=xE c run pass t i:=dP rfl
theorem Zkl{i:Nat}{c:Bool}{run pass:List PV->Prop}:gdV (.v (.bool c)) i t ZD run pass=xE c pass run t i:=dP rfl
theorem Zkn{i:Nat}{run pass:List PV->Prop}:gdV .ud i t b run pass=pass t:=by cases b<;>rfl
theorem ZcE{i:Nat}:jk t (ZA i) p=t.set i p:=dP rfl
theorem ZcD:jk t ZB p=t:=dP rfl
theorem Vd{i:Nat}:fS t (.tmp i)=t.getD i .un:=dP rfl
theorem Zhj{k:IntKind}{n:Int}:fS t (.const (.int k n))=.v (.int k n):=dP rfl
theorem Pq{c:Bool}:fS t (.const (.bool c))=.v (.bool c):=dP rfl
theorem Zhl{c:ByteArray}:fS t (.const (.string c))=.v (.string c):=dP rfl
theorem Zkf{n c:Nat}:fS t (.const (.slice a n c))=.v (.slice a n c):=dP rfl
theorem Zhk:fS t (.const (.pointer a))=.v (.pointer a):=dP rfl
theorem Zel{f:FuncId}:fS t (.func f)=.v (.func (.func f) #[] #[]):=dP rfl
theorem Zcv:je P io wd ν (.move x) t m KA=KA (fS t x) m:=dP rfl
theorem QP:je P io wd ν (.assign x) t m KA=KA (fS t x) m:=dP rfl
def Lx(c x y:PV)(K:PV->Prop):Prop:=match c with
 |.v (.bool b)=>K (if b then x else y)
 |_=>False
theorem Zin{x y:PV}:Lx (.v (.bool ZC)) x y KR=KR x:=dP rfl
theorem Zim{x y:PV}:Lx (.v (.bool ZD)) x y KR=KR y:=dP rfl
theorem Zcw{c x y:Operand}:je P io wd ν (.pick c x y) t m KA=Lx (fS t c) (fS t x) (fS t y) (OD KA m):=dP rfl
theorem Zcu:je P io wd ν (.load T x) t m KA=va P T (Si m (fS t x)) (OD KA m):=dP rfl
theorem Ky:je P io wd ν (.nilCheck x) t m KA=Kw m (fS t x) (OD KA m):=dP rfl
theorem TQ{op:BinOp}:je P io wd ν (.binOp op T x y T') t m KA=QC P op T (fS t x) (fS t y) (OD KA m):=dP rfl
theorem Zcx{op:UnOp}:je P io wd ν (.unOp op T x) t m KA=pUn op (fS t x) (OD KA m):=dP rfl
theorem NO:je P io wd ν (.convert T T' x) t m KA=uT P m T T' (fS t x) (OD KA m):=dP rfl
theorem TV{lo hi:Option Operand}:je P io wd ν (.slice T x lo hi ZB) t m KA=lq P m T (fS t x) (lo.map (fS t)) (hi.map (fS t)) (OD KA m):=dP rfl
theorem Js{f:Nat}:je P io wd ν (.fieldAddr T x f) t m KA=lp P m T (fS t x) f (OD KA m):=dP rfl
theorem TS{f:Nat}:je P io wd ν (.field T x f) t m KA=zO P T (fS t x) f (OD KA m):=dP rfl
theorem Jt:je P io wd ν (.indexAddr T x y) t m KA=cI P m T (fS t x) (fS t y) (OD KA m):=dP rfl
theorem TT:je P io wd ν (.index T x y) t m KA=vX P T (fS t x) (fS t y) (OD KA m):=dP rfl
theorem NP{i:Nat}:je P io wd ν (.extract x i) t m KA=QF i (fS t x) (OD KA m):=dP rfl
theorem TR{ps:List (Nat×Operand)}:je P io wd ν (.build T ps.toArray) t m KA=zN P T (ps.map λq=>(q.1,fS t q.2)) (OD KA m):=dP rfl
theorem Kx{f:FuncId}{cs:List Operand}:je P io wd ν (.makeFunc (.func f) #[] cs.toArray) t m KA=KA (.fn f (cs.map (fS t))) m:=dP rfl
theorem ZfP:je P io wd ν (.call ⟨.builtin .len,#[x],#[T]⟩) t m KA=A8 P m T (fS t x) (OD KA m):=dP rfl
theorem ZfR:je P io wd ν (.call ⟨.builtin .min,#[x,y],#[T,T']⟩) t m KA=ta ZD [fS t x,fS t y] (OD KA m):=dP rfl
theorem ZfQ:je P io wd ν (.call ⟨.builtin .max,#[x,y],#[T,T']⟩) t m KA=ta ZC [fS t x,fS t y] (OD KA m):=dP rfl
theorem TP:je P io wd ν (.alloc T) t m KA=EP ν m T (pz P T) KA:=dP rfl
theorem ZfN:je P io wd ν (.box T x) t m KA=EP ν m T (pc (fS t x)) KA:=dP rfl
theorem Gy{ps:List (Nat×Operand)}:je P io wd ν (.buildSlice T n ps.toArray) t m KA=nJ P ν m T n (ps.map λq=>(q.1,fS t q.2)) KA:=dP rfl
theorem Ju:je P io wd ν (.makeSlice T x y) t m KA=zP P ν m T (fS t x) (fS t y) KA:=dP rfl
theorem TW:je P io wd ν (.store T x y) t m KA=zQ P m T (fS t x) (fS t y) KA:=dP rfl
theorem QO:je P io wd ν (.call ⟨.builtin .append,#[x,y],#[T,T]⟩) t m KA=fV P ν m T (fS t x) (fS t y) KA:=by
 have:je P io wd ν (.call ⟨.builtin .append,#[x,y],#[T,T]⟩) t m KA=(T=T/\fV P ν m T (fS t x) (fS t y) KA):=rfl;rw[this];simp
theorem Zct{f:FuncId}{xs:List Operand}:je P io wd ν (.call ⟨.value (.func f),xs.toArray,Ts⟩) t m KA=(BW P f/\rz P io wd ν f (xs.map (fS t)) m KA):=dP rfl
def Zik(P:Program)(io:Bool)(wd ν:Nat)(p:PV)(ps:List PV)(m:Mem)(K:PV->Mem->Prop):Prop:=match p with
 |.fn f cs=>(∀c∈cs,I2 c=ZC)/\BW P f/\rz P io wd ν f (ps++cs) m K
 |_=>False
theorem ZfO{i:Nat}{xs:List Operand}:je P io wd ν (.call ⟨.value (.tmp i),xs.toArray,Ts⟩) t m KA=Zik P io wd ν (t.getD i .un) (xs.map (fS t)) m KA:=dP rfl
theorem Zcl:Nv (ZA v) KR=KR (.v v):=dP rfl
theorem Zlm{l i o:Nat}:Si m (.be l i o)=((look m l).bind λmb=>(mb.es[i]?).map (·.drop o)):=by
 unfold look Si
 cases h:m[l]? with
 |none=>simp[h]
 |some x=>cases x<;>simp[h]
theorem Zfj{x:Option MB}{m:Mem}:look (x::m) 0=x:=by unfold look;cases x<;>rfl
theorem Zfi{x:Option MB}{m:Mem}:look (x::m) (n+1)=look m n:=dP rfl
theorem Zlb{x:Option MB}{m:Mem}:py (x::m) 0 mb=ZA mb::m:=by simp[py]
theorem Zla{x:Option MB}{m:Mem}:py (x::m) (n+1) mb=x::py m n mb:=by
 unfold py;rw[show n+1+1-(x::m).length=n+1-m.length by simp]
 rfl
theorem Zh9:py [] 0 mb=[ZA mb]:=dP rfl
theorem Zia:py [] (n+1) mb=ZB::py [] n mb:=by
 unfold py;simp[List.replicate_succ]
theorem Zld{α:Type}(a b:α)(as_:List α):(a::as_).set 0 b=b::as_:=dP rfl
theorem Zlc{α:Type}(a b:α)(as_:List α)(n:Nat):(a::as_).set (n+1) b=a::as_.set n b:=dP rfl
theorem ZlD(c q:PV)(cs qs:List PV):Ba (c::cs) 0 (q::qs)=q::Ba cs 0 qs:=by simp[Ba]
theorem ZlB(cs:List PV):Ba cs 0 []=cs:=by simp[Ba]
theorem ZlC(c:PV)(cs qs:List PV)(n:Nat):Ba (c::cs) (n+1) qs=c::Ba cs n qs:=by
 simp only[Ba,List.take_succ_cons,List.cons_append];rw[show n+1+qs.length=(n+qs.length)+1 by omega,List.drop_succ_cons]
theorem Zll{α:Type}(bs:List α):List.append [] bs=bs:=dP rfl
theorem Zlk{α:Type}(a:α)(as_ bs:List α):List.append (a::as_) bs=a::List.append as_ bs:=dP rfl
theorem ZjK{ν i:Nat}:sig [] ν i=ν+i:=by simp[sig]
theorem ZjM{a ν:Nat}{ρ:List Nat}:sig (a::ρ) ν 0=a:=dP rfl
theorem ZjL{a ν i:Nat}{ρ:List Nat}:sig (a::ρ) ν (i+1)=sig ρ ν i:=by
 unfold sig;simp only[List.length_cons,Nat.add_lt_add_iff_right,List.getD_cons_succ,Nat.add_sub_add_right]
theorem LD{α:Type}{f:α->List PV}[hf:dB f]{σ:Nat->Nat}{xs:List α}:vd σ (xs.map f)=xs.map f:=by
 unfold vd;rw[List.map_map];apply WJ;intro x _;have h1:=hf.h x;show(f x).map (vt σ)=f x;generalize f x=cs at h1
 induction cs with
 |nil=>rfl
 |cons c cs ih=>
  rw[List.map_cons,ih λq hq=>h1 q (V5 _ hq)]
  congr 1
  have hc:=h1 c Wc;have k1:∀{d:PV},yu d=ZC->yR σ d=d:=λ{d} hd=>by cases d<;>simp_all[yu,yR]
  cases c with
  |fn g ds=>
   simp only[uW,VS]at hc
   simp only[vt]
   congr 1
   have e:ds.map (yR σ)=ds.map id:=WJ λd hd=>k1 (hc d hd)
   rw[e,XO]
  |_=>simp_all[uW,yu,vt,yR]
theorem ZcN{σ:Nat->Nat}:vd σ []=[]:=dP rfl
theorem Uc{σ:Nat->Nat}{c:List PV}{cs:List (List PV)}:vd σ (c::cs)=c.map (vt σ)::vd σ cs:=dP rfl
theorem DL{α:Type}{f:α->List PV}[hf:dB f]{xs:List α}:ZiW (xs.map f):=by
 intro cs gl q hq;obtain⟨x,_,rfl⟩:=V6.1 gl;exact hf.h x q hq
theorem Rf{α:Type}{f:α->List PV}[hf:dB f]{xs:List α}:(∀cs∈xs.map f,∀q∈cs,uW q=ZC)=True:=by
 simp only[eq_iff_iff,iff_true];exact DL
theorem xF{c:PV}(h:uW c=ZC):er ZD c:=by
 cases c with
 |fn f cs=>
  simp only[uW,VS]at h
  exact⟨rfl,λd hd=>by have:=h d hd;cases d<;>simp_all[yu,I2]⟩
 |_=>intro h;cases h
theorem IG{c:PV}(h:PY c=ZC):er ZC c:=by
 cases c<;>first|exact λ_=>h|simp[PY]at h
theorem ZbI{α:Type}{f:α->List PV}[hf:dB f]{xs:List α}:(∀cs∈xs.map f,∀p∈cs,er ZD p)=True:=by
 simp only[eq_iff_iff,iff_true];intro cs gl q hq;obtain⟨x,_,rfl⟩:=V6.1 gl;exact xF (hf.h x q hq)
theorem ZbJ{α:Type}{f:α->List PV}[hf:tr f]{xs:List α}:(∀cs∈xs.map f,∀p∈cs,er ZC p)=True:=by
 simp only[eq_iff_iff,iff_true];intro cs gl q hq;obtain⟨x,_,rfl⟩:=V6.1 gl;exact IG (hf.h x q hq)
theorem Lm{A:MB->Prop}:live m l A=(match look m l with
 |some mb=>A mb
 |none=>False):=mQ A
theorem CL{α β:Type}(f:α->β)(xs:List α)(n:Nat):(xs.map f).drop n=(xs.drop n).map f:=List.map_drop.symm
theorem DW{α β:Type}(f:α->β)(xs:List α)(n:Nat):(xs.map f).take n=(xs.take n).map f:=List.map_take.symm
theorem ZjX{α β:Type}(f:α->β)(xs ys:List α):xs.map f++ys.map f=(xs++ys).map f:=(List.map_append).symm
end
section
variable {P:Program} {n0:Nat} {Q:Exit->List PV->Mem->Prop} {t t':List PV} {m m':Mem} {K:List PV->Mem->Prop} {KR:PV->Prop} {KA:PV->Mem->Prop}
theorem vw:uO K Q .normal t m=K t m:=rfl
theorem JW{i:Nat}:uO K Q (.exit i) t m=Q (.exit i) t m:=rfl
theorem LX:uO K Q .ret t m=Q .ret t m:=rfl
theorem ue:zh id Q .normal t m=Q .normal t m:=rfl
theorem Fb{id i:Nat}:zh id Q (.exit i) t m=if i=id then Q .normal t m else Q (.exit i) t m:=rfl
theorem H5:zh id Q .ret t m=Q .ret t m:=rfl
theorem ZiE{x y:Code}(h:∀K:List PV->Mem->Prop,(∀t m,tp P n0 y Q t m->K t m)->tp P n0 x (uO K Q) t m):tp P n0 (.seq x y) Q t m:=
 h (λt m=>tp P n0 y Q t m) (λ_ _ h=>h)
theorem ZcG(h:tp P n0 c (zh id Q) t m):tp P n0 (.block id c) Q t m:=h
def OX(p:PV)(A B:Prop):Prop:=match p with
 |.v (.bool b)=>(b=ZC->A)/\(b=ZD->B)
 |_=>False
theorem ZcH{c:Operand}{x y:Code}(h:OX (fS t c) (tp P n0 x Q t m) (tp P n0 y Q t m)):tp P n0 (.cond c x y) Q t m:=by
 unfold OX at h
 split at h
 ·rename_i b hb
  simp only[tp,hb]
  cases b with
  |true=>simpa using h.1 rfl
  |false=>simpa using h.2 rfl
 ·exact h.elim
theorem ZdK{A B:Prop}(h:A):OX (.v (.bool ZC)) A B:=⟨λ_=>h,λh=>by cases h⟩
theorem ZdJ{A B:Prop}(h:B):OX (.v (.bool ZD)) A B:=⟨λh=>YT,λ_=>h⟩
theorem OY{b:Bool}{A B:Prop}(h1:b=ZC->A)(h2:b=ZD->B):OX (.v (.bool b)) A B:=⟨h1,h2⟩
theorem Zf2(h:Q .normal t m):tp P n0 .skip Q t m:=h
theorem ZfZ{i:Nat}(h:Q (.exit i) t m):tp P n0 (.exit i) Q t m:=h
theorem ZiD(h:Q .ret t m):tp P n0 .ret Q t m:=h
theorem Ub{ops:List Oper}(h:vp P ops.toArray (Q .normal) ops t m):tp P n0 (.region id ops.toArray ZD) Q t m:=.inl h
def Zbw(ops:List Oper)(K:List PV->Mem->Prop)(g:List LE)(t:List PV)(m:Mem):Prop:=Sw ops g=ZC/\K t m
theorem ZfX{ops:List Oper}(h1:P.follows .mixedOrders=ZC)(h:kj P 4 m.length [] ops.toArray (Zbw ops (Q .normal)) 0 ops [] t m):tp P n0 (.region id ops.toArray ZC) Q t m:=.inl ⟨h1,4,[],by decide,h⟩
theorem ZcI{id wd:Nat}{fl:List Nat}{ops:List Oper}(PN:ZE (0<wd)=ZC)(h1:P.follows .mixedOrders=ZC)(h:kj P wd m.length fl ops.toArray (Zbw ops (Q .normal)) 0 ops [] t m):tp P n0 (.region id ops.toArray ZC) Q t m:=.inl ⟨h1,wd,fl,YA PN,h⟩
theorem SH{ops:List Oper}{g:List LE}(h1:Sw ops g=ZC)(h2:K t m):Zbw ops K g t m:=⟨h1,h2⟩
theorem ZcJ{σ ο R:Type}{body:σ->Option (σ⊕ο)}[E:bj body]{N:Nat}{s0:σ}{Zfa:ο->Option R}{r:R}(H:(aD body N s0).bind Zfa=ZA r)(hcut:tz n0 t m (E.T s0) (E.M s0))
 (SZ:∀n s,(aD body (n+1) s).bind Zfa=ZA r->∀K:List PV->Mem->Prop,(∀s' t m,(aD body n s').bind Zfa=ZA r->tz n0 t m (E.T s') (E.M s')->K t m)->tp P n0 c (uO K Q) (E.T s) (E.M s)):tp P n0 (.loop c) Q t m:=by
 refine⟨λn t m=>∃s,(aD body n s).bind Zfa=ZA r/\t=E.T s/\m=E.M s,N,E.T s0,E.M s0,hcut,⟨s0,H,rfl,rfl⟩,?_⟩
 rintro n t m ⟨s,hI,rfl,rfl⟩
 cases n with
 |zero=>exact(Hno hI).elim
 |succ n=>exact SZ n s hI (λt m=>∃k t' m',k<n+1/\tz n0 t m t' m'/\∃s,(aD body k s).bind Zfa=ZA r/\t'=E.T s/\m'=E.M s) (λs' t m h hc=>⟨n,_,_,YG,hc,s',h,rfl,rfl⟩)
/-! Zl7. -/
def fW(P:Program)(T:TypeId):Nat:=match P.underlying T with
 |some (.slice e)=>P.cellsOf e
 |_=>0
theorem xA(h:0<fW P T):∃e,P.underlying T=ZA (.slice e)/\fW P T=P.cellsOf e:=by
 unfold fW at *
 split at h
 ·rename_i e he;exact⟨e,he,rfl⟩
 ·omega
theorem mO{α:Type}{xs:List α}{i:Int}{x:α}(h:aA xs i=ZA x):0<=i/\xs[i.toNat]?=ZA x:=by
 unfold aA at h
 split at h
 ·exact⟨by assumption,h⟩
 ·cases h
theorem Mu{α:Type}{xs:List α}{i:Int}{x:α}(h:aA xs i=ZA x):0<=i/\i<xs.length/\xs[i.toNat]?=ZA x:=by
 obtain⟨h1,h2⟩:=mO h;have:=(VH.1 h2).1;exact⟨h1,YG,h2⟩
theorem Zk2{α:Type}{f:α->List PV}{xs:List α}{x:α}{i:Int}{k:IntKind}(h:aA xs i=ZA x)(hp:0<fW P T)(hc:(f x).length=fW P T)(hK:KR (.rp (f x))):cI P m T (.sl (xs.map f)) (.v (.int k i)) KR:=by
 obtain⟨h1,h2,h3⟩:=Mu h;obtain⟨e,hu,he⟩:=xA hp;rw[he]at hp hc
 have hd:(xs.map f).getD i.toNat []=f x:=by simp[W8,h3]
 simp only[cI,hu,VX];rw[hd];exact⟨h1,h2,hp,hc,hK⟩
theorem Zk1{α:Type}{f:α->List PV}{xs:List α}{x:α}{T':TK}{i:Int}{k:IntKind}(h:aA xs i=ZA x)(hm:look m l=ZA ⟨T',k',xs.map f⟩)(hp:0<fW P T)(hk:k'=fW P T)(hK:KR (.be l i.toNat 0)):cI P m T (.ms l) (.v (.int k i)) KR:=by
 obtain⟨h1,h2,h3⟩:=Mu h;obtain⟨e,hu,he⟩:=xA hp;rw[he]at hk
 simp only[cI,hu,mQ,hm,VX];exact⟨h1,h2,hk,hK⟩
theorem ZhL{i c:Int}{k:IntKind}(h:Ka s i=ZA c)(hu:P.underlying T=ZA .string)(hK:KR (.v (.int .u8 c))):vX P T (.v (.string s)) (.v (.int k i)) KR:=by
 unfold Ka at h
 split at h
 ·rename_i hi
  cases h
  simp only[vX,hu];exact⟨hi.1,hi.2,hK⟩
 ·cases h
theorem Nw{c:Prop}[Decidable c](hc:c)(h:KR (.v v)):Nv (if c then ZA v else ZB) KR:=by rw[if_pos hc];exact h
theorem Zgn{α:Type}{f:α->List PV}{xs:List α}{l h:Int}(ji:iC l h xs.length=ZC)(hlo:NA lo 0=ZA l)(hhi:NA hi xs.length=ZA h)(hp:0<fW P T)(hf:∀x,(f x).length=fW P T)(hK:KR (.sl ((cZ xs l h).map f))):lq P m T (.sl (xs.map f)) lo hi KR:=by
 obtain⟨e,hu,he⟩:=xA hp;rw[he]at hp hf
 have rh:=YA ji;simp only[lq,hu,VX,hlo,hhi];refine⟨rh.1,rh.2.1,rh.2.2,hp,λcs gl=>?_,?_⟩
 ·obtain⟨x,_,rfl⟩:=V6.1 gl
  exact hf x
 ·rw[CL,DW];exact hK
theorem ZcY{l h:Int}(ji:iC l h s.size=ZC)(hlo:NA lo 0=ZA l)(hhi:NA hi s.size=ZA h)(hu:P.underlying T=ZA .string)(hK:KR (.v (.string (Zqh s l h)))):lq P m T (.v (.string s)) lo hi KR:=by
 have rh:=YA ji;simp only[lq,hu,hlo,hhi];exact⟨rh.1,rh.2.1,rh.2.2,hK⟩
/-! Calls. -/
theorem Za0{f:FuncId}{io:Bool}{wd ν:Nat}(hs:DQ m ps (λqs=>cq P f qs [] r m1))(hw:m1.length<=wd)(hm:∀mb,ZA mb∈m1->∀cs∈mb.es,∀p∈cs,er ZC p)(hg:tt ZC r)(hK:KA (DJ (sig [] ν) r) (jy (sig [] ν) ν m1 m)):rz P io wd ν f ps m KA:=
 .inl ⟨r,m1,hs,hw,λmb h cs hc p hp=>.inl (hm mb h cs hc p hp),hg,hK⟩
theorem gm(h:uW p=ZC):er ZD p/\B9 0 p=true:=by
 refine⟨xF h,?_⟩
 cases p with
 |fn f cs=>
  simp only[uW,VS]at h
  simp only[B9,VS];intro c hc;have:=h c hc
  cases c<;>simp_all[yu,Gr]
 |_=>simp_all[uW,yu,B9,Gr]
theorem uh{σ:Nat->Nat}(h:uW p=ZC):vt σ p=p:=by
 have k1:∀{d:PV},yu d=ZC->yR σ d=d:=λ{d} hd=>by cases d<;>simp_all[yu,yR]
 cases p with
 |fn g ds=>
  simp only[uW,VS]at h
  simp only[vt]
  congr 1
  have e:ds.map (yR σ)=ds.map id:=WJ λd hd=>k1 (h d hd)
  rw[e,XO]
 |_=>simp_all[uW,yu,vt,yR]
theorem Di{σ:Nat->Nat}(h:ZbU p=ZC):DI σ p=p/\wT ZD p/\M3 0 p=true:=by
 cases p with
 |ag cs=>
  simp only[ZbU,VS]at h
  refine⟨?_,λc hc=>(gm (h c hc)).1,?_⟩
  ·simp only[DI]
   have e:cs.map (vt σ)=cs.map id:=WJ λd hd=>uh (h d hd)
   rw[e,XO]
  ·simp only[M3,VS];exact λc hc=>(gm (h c hc)).2
 |tu vs=>simp[ZbU]at h
 |v x=>
  have h':uW (.v x)=true:=h;exact⟨uh (σ:=σ) h',(gm h').1,(gm h').2⟩
 |ud=>
  have h':uW (.ud)=true:=h;exact⟨uh (σ:=σ) h',(gm h').1,(gm h').2⟩
 |un=>
  have h':uW (.un)=true:=h;exact⟨uh (σ:=σ) h',(gm h').1,(gm h').2⟩
 |sl es=>
  have h':uW (.sl es)=true:=h;exact⟨uh (σ:=σ) h',(gm h').1,(gm h').2⟩
 |rp cs=>
  have h':uW (.rp cs)=true:=h;exact⟨uh (σ:=σ) h',(gm h').1,(gm h').2⟩
 |ms l=>
  have h':uW (.ms l)=true:=h;exact⟨uh (σ:=σ) h',(gm h').1,(gm h').2⟩
 |ss l a b=>
  have h':uW (.ss l a b)=true:=h;exact⟨uh (σ:=σ) h',(gm h').1,(gm h').2⟩
 |be l i o=>
  have h':uW (.be l i o)=true:=h;exact⟨uh (σ:=σ) h',(gm h').1,(gm h').2⟩
 |fn f cs=>
  have h':uW (.fn f cs)=true:=h;exact⟨uh (σ:=σ) h',(gm h').1,(gm h').2⟩
theorem ZaZ{f:FuncId}{io:Bool}{wd ν:Nat}(hs:cq P f ps [] r m1)(hp:∀p∈ps,ZbU p=ZC)(hw:m1.length<=wd)(hm:∀mb,ZA mb∈m1->∀cs∈mb.es,∀p∈cs,er ZD p)(hg:tt ZD r)(hK:KA (DJ (sig [] ν) r) (jy (sig [] ν) ν m1 m)):rz P io wd ν f ps m KA:=by
 refine .inr ⟨[],[],ps,r,m1,.inr rfl,hs,WG _,by simpa using hw,?_,λq hq=>⟨(Di (σ:=id) (hp q hq)).2.1,(Di (σ:=id) (hp q hq)).2.2⟩,List.nodup_nil,trivial,hm,hg,by simpa[qi]using hK⟩
 have:ps.map (DI (sig [] ν))=ps.map id:=WJ λp h=>(Di (hp p h)).1
 rw[this,XO]
/-! Zn1. -/
theorem ZjY{α:Type}{f:α->List PV}{xs ys:List α}{ν l e k:Nat}{x:PV}(ji:bB (xs.length+ys.length) (P.bytesOf e)=ZC)(hu:P.underlying T=ZA (.slice e))(hz:pz P e=ZA zc)(BO:rE m x=ZA (ys.map f))(hl:look m l=ZA ⟨e,k,xs.map f⟩)
 (Au:zc.length=P.cellsOf e) (hp:0<P.cellsOf e) (hf:∀x,(f x).length=P.cellsOf e) (hk:k=P.cellsOf e) (hK:KA (.ms ν) (py (m.set l ZB) ν ⟨e,k,(xs++ys).map f⟩)):fV P ν m T (.ms l) x KA:=by
 subst hk;have rh:=YA ji;simp only[fV,hu,hz,BO,mQ,hl,VX];refine⟨Au,hp,λcs gl=>?_,rfl,trivial,rh.1,rh.2,?_⟩
 ·obtain⟨x,_,rfl⟩:=V6.1 gl
  exact hf x
 ·rw[ZjX];exact hK
theorem ZjZ{α:Type}{f:α->List PV}{ys:List α}{ν e:Nat}{x:PV}(ji:bB ys.length (P.bytesOf e)=ZC)(hu:P.underlying T=ZA (.slice e))(hz:pz P e=ZA zc)(BO:rE m x=ZA (ys.map f))
 (Au:zc.length=P.cellsOf e) (hp:0<P.cellsOf e) (hf:∀x,(f x).length=P.cellsOf e) (hK:KA (.ms ν) (py m ν ⟨e,P.cellsOf e,ys.map f⟩)):fV P ν m T (.v (.slice ZB 0 0)) x KA:=by
 have rh:=YA ji;simp only[fV,hu,hz,BO,VX];refine⟨Au,hp,λcs gl=>?_,rh.1,rh.2,hK⟩
 obtain⟨x,_,rfl⟩:=V6.1 gl;exact hf x
/-! tz. -/
theorem Zd0{ρ:Nat->Option Nat}:J9 ρ m m' [] []:=trivial
theorem Zhc{ρ:Nat->Option Nat}{ps rs:List PV}(h:J9 ρ m m' ps rs):J9 ρ m m' (p::ps) (.un::rs):=⟨.a (.c (.un p)),h⟩
theorem Zkb{ρ:Nat->Option Nat}{ps rs:List PV}(hc:J6 ρ m m' p r)(h:J9 ρ m m' ps rs):J9 ρ m m' (p::ps) (r::rs):=⟨hc,h⟩
theorem Zd1{ρ:Nat->Option Nat}(h:uW p=ZC):J6 ρ m m' p p:=.a (.c (.c p h))
theorem Zkc{ρ:Nat->Option Nat}(h:qq ρ m m' p r):J6 ρ m m' p r:=.a (.c h)
theorem Zhd{ρ:Nat->Option Nat}(h:uw ρ m m' cs ds):J6 ρ m m' (.ag cs) (.ag ds):=.a (.ag cs ds h)
theorem Zg7{ρ:Nat->Option Nat}(h:uw ρ m m' cs ds):L7 ρ m m' (.ag cs) (.ag ds):=.ag cs ds h
theorem Zj5{ρ:Nat->Option Nat}(h:qq ρ m m' p r):L7 ρ m m' p r:=.c h
theorem Zhe{ρ:Nat->Option Nat}(h:Iq ρ m m' cs ds):J6 ρ m m' (.tu cs) (.tu ds):=.tu cs ds h
theorem Zbe{ρ:Nat->Option Nat}:Iq ρ m m' [] []:=trivial
theorem Zg8{ρ:Nat->Option Nat}{ps rs:List PV}(hc:L7 ρ m m' p r)(h:Iq ρ m m' ps rs):Iq ρ m m' (p::ps) (r::rs):=⟨hc,h⟩
theorem ZdZ{ρ:Nat->Option Nat}:uw ρ m m' [] []:=trivial
theorem Zka{ρ:Nat->Option Nat}{ps rs:List PV}(hc:qq ρ m m' p r)(h:uw ρ m m' ps rs):uw ρ m m' (p::ps) (r::rs):=⟨hc,h⟩
def yx(rs:List (Option Nat))(l:Nat):Option Nat:=(rs[l]?).join
theorem Zga{x:Option Nat}:yx (x::rs) 0=x:=by cases x<;>rfl
theorem Rb{x:Option Nat}:yx (x::rs) (l+1)=yx rs l:=rfl
theorem Zhb(h:yx rs l=ZA k)(hl:ZE (l<m'.length)=ZC):qq (yx rs) m m' (.ms k) (.ms l):=.ms l k h (YA hl)
theorem Zha{l k i o:Nat}(h:yx rs l=ZA k)(hl:ZE (l<m'.length)=ZC):qq (yx rs) m m' (.be k i o) (.be l i o):=.be l k i o h (YA hl)
theorem SC(h:yx rs l=ZB)(hl:ZE (l<m'.length)=ZC):qq (yx rs) m m' (.v (.slice ZB 0 0)) (.ms l):=.ZjD l h (YA hl)
theorem SD{α:Type}{f:α->List PV}{ρ:Nat->Option Nat}{c:Nat}:qq ρ m m' (.v (.slice ZB 0 c)) (.sl (([]:List α).map f)):=.VC c
def ZnM(rs:List (Option Nat))(k:Nat):Bool:=rs.all λx=>match x with
 |some j=>!decide (j=k)
 |none=>ZC
theorem Iv(h:ZnM rs k=ZC):dropped (yx rs) m' k:=by
 intro l _ he;unfold yx at he
 cases hl:rs[l]? with
 |none=>rw[hl]at he;cases he
 |some x=>
  rw[hl]at he
  have he':x=ZA k:=he;subst he';have:=VS.1 h _ (VI hl);simp at this
theorem O5{α:Type}{f:α->List PV}[dB f]{xs:List α}{T:TK}(hm:look m k=ZA ⟨T,k',xs.map f⟩)(hd:dropped (yx rs) m' k):qq (yx rs) m m' (.ms k) (.sl (xs.map f)):=.fms k ⟨T,k',xs.map f⟩ (jq.1 hm) DL hd
theorem ZdV{T:TK}(hm:look m k=ZA ⟨T,k',[cs]⟩)(hc:cs.all uW=ZC)(hd:dropped (yx rs) m' k):qq (yx rs) m m' (.be k 0 0) (.rp cs):=by
 have:=qq.fbe (ρ:=yx rs) (m:=m) (m':=m') k 0 0 ⟨T,k',[cs]⟩ cs (jq.1 hm) rfl (VS.1 hc) hd
 simpa using this
def zm(ρ:Nat->Option Nat)(m m':Mem)(mb nZ:MB):Prop:=ZmB ρ m m' mb nZ/\∀k0:Nat,m[k0]?=ZA (ZA mb)->Zbl ρ m m' mb nZ
def Nn:PV->Bool
 |.ms _|.ss ..=>ZD
 |_=>ZC
theorem It{ρ:Nat->Option Nat}(h:nZ.T.kd=ZB):Zbl ρ m m' mb nZ:=λT hT=>by rw[h]at hT;cases hT
theorem KS{ρ:Nat->Option Nat}:Zbl ρ m m' mb mb:=λ_ hT _ ds _ _ hi hj _=>.inl ⟨hT,ds,hi,hj⟩
theorem U6{ρ:Nat->Option Nat}{es:List (List PV)}(h:qq ρ m m' p (.sl es))(hp:Nn p=ZC)(dX:es≠[]):p=.sl es:=by
 cases h with
 |c _ _=>rfl
 |VC c=>exact absurd rfl dX
 |fms=>cases hp
 |fss=>cases hp
theorem Zj9{ρ:Nat->Option Nat}{T:TK}{es vC:List (List PV)}(h:CI ρ m m' es vC)(hn:∀cs∈es,∀p∈cs,Nn p=ZC):Zbl ρ m m' ⟨T,k,es⟩ ⟨T,k',vC⟩:=λT1 hT i ds j l hi hj dX=>by
 obtain⟨cs,h1,h2⟩:=(vL h).2 i ds hi;obtain⟨p,h3,h4⟩:=(xy h2).2 j _ hj;have:=U6 h4 (hn cs (VI h1) p (VI h3)) dX;subst this;exact .inl ⟨hT,cs,h1,h3⟩
def pg(rs:List (Option Nat))(m m':Mem):List (Option Nat)->Mem->Prop
 |_,[]=>True
 |r::rr,ZB::mm=>pg rs m m' rr mm
 |some k::rr,ZA nZ::mm=>(∃mb,look m k=ZA mb/\zm (yx rs) m m' mb nZ)/\pg rs m m' rr mm
 |none::rr,ZA nZ::mm=>(nZ.es=[]/\0<nZ.k)/\pg rs m m' rr mm
 |_,_=>False
theorem Uj:pg rs m m' rr []:=by unfold pg;trivial
theorem Rg{r:Option Nat}(h:pg rs m m' rr mm):pg rs m m' (r::rr) (ZB::mm):=h
theorem Rh(h1:look m k=ZA mb)(h2:zm (yx rs) m m' mb nZ)(h:pg rs m m' rr mm):pg rs m m' (ZA k::rr) (ZA nZ::mm):=⟨⟨mb,h1,h2⟩,h⟩
theorem Ui{α:Type}{f:α->List PV}{T:TK}(hk:ZE (0<k)=ZC)(h:pg rs m m' rr mm):pg rs m m' (ZB::rr) (ZA ⟨T,k,([]:List α).map f⟩::mm):=⟨⟨rfl,YA hk⟩,h⟩
theorem Ei{α:Type}{f:α->List PV}[dB f]{ρ:Nat->Option Nat}{T:TK}{xs:List α}:zm ρ m m' ⟨T,k,xs.map f⟩ ⟨T,k,xs.map f⟩:=⟨⟨rfl,rfl,.inl ⟨rfl,DL⟩⟩,λ_ _=>KS⟩
theorem ZdS{ρ:Nat->Option Nat}{T k:Nat}(h:uw ρ m m' cs ds):zm ρ m m' ⟨T,k,[cs]⟩ ⟨T,k,[ds]⟩:=⟨⟨rfl,rfl,.inr ⟨h,trivial⟩⟩,λ_ _=>It rfl⟩
theorem yy{rs:List (Option Nat)}:∀(rr:List (Option Nat)) (mm:Mem),pg rs m m' rr mm->∀l nZ,mm[l]?=ZA (ZA nZ)->(∃k mb,yx rr l=ZA k/\m[k]?=ZA (ZA mb)/\zm (yx rs) m m' mb nZ)\/(yx rr l=ZB/\nZ.es=[]/\0<nZ.k)
 |_,[],_,l,nZ,h=>by simp at h
 | [],ZB::mm,h,_,_,_=>by unfold pg at h;exact h.elim
 | [],ZA _::mm,h,_,_,_=>by unfold pg at h;exact h.elim
 |r::rr,ZB::mm,h,l,nZ,hl=>by
  cases l with
  |zero=>simp at hl
  |succ l=>exact yy rr mm h l nZ Zc
 |some k::rr,ZA mb::mm,h,l,nZ,hl=>by
  cases l with
  |zero=>
   obtain rfl:mb=nZ:=by simpa using hl
   obtain⟨⟨Sg,h1,h2⟩,_⟩:=h;exact .inl ⟨k,Sg,rfl,jq.1 h1,h2⟩
  |succ l=>exact yy rr mm h.2 l nZ Zc
 |none::rr,ZA mb::mm,h,l,nZ,hl=>by
  cases l with
  |zero=>
   obtain rfl:mb=nZ:=by simpa using hl
   exact .inr ⟨rfl,h.1⟩
  |succ l=>exact yy rr mm h.2 l nZ Zc
def PU:List (Option Nat)->Bool
 | []=>ZC
 |none::rs=>PU rs
 |some k::rs=>ZnM rs k&&PU rs
theorem PW:∀(rs:List (Option Nat)),PU rs=ZC->∀l l' k,yx rs l=ZA k->yx rs l'=ZA k->l=l'
 | [],_,l,l',k,h,_=>by simp[yx]at h
 |x::rs,hb,l,l',k,h,h'=>by
  have PL:∀{j:Nat},x=ZA k->yx rs j=ZA k->False:=by
   rintro j rfl hj;simp only[PU,VN]at hb
   have:=Iv (m':=[]) hb.1;unfold yx at hj
   cases hl:rs[j]? with
   |none=>rw[hl]at hj;cases hj
   |some y=>
    rw[hl]at hj
    have hy:y=ZA k:=hj;subst hy;have:=VS.1 hb.1 _ (VI hl);simp at this
  have yM:PU rs=true:=by cases x<;>simp_all[PU]
  cases l with
  |zero=>
   rw[Zga]at h
   cases l' with
   |zero=>rfl
   |succ l'=>exact(PL h (by simpa[Rb]using h')).elim
  |succ l=>
   rw[Rb]at h
   cases l' with
   |zero=>rw[Zga]at h';exact(PL h' h).elim
   |succ l'=>rw[PW rs yM l l' k h (by simpa[Rb]using h')]
def zA:Nat->Nat->List (Option Nat)->Mem->Bool
 |0,_,_,_=>ZC
 |_+1,_,_,[]=>ZD
 |n+1,i,rs,ZB::m=>zA n (i+1) (rs.drop 1) m
 |n+1,i,ZA k::rs,ZA _::m=>ZE (k=i)&&zA n (i+1) rs m
 |_,_,_,_=>ZD
theorem Du:∀(n i:Nat) (rs:List (Option Nat)) (m':Mem),zA n i rs m'=ZC->n<=m'.length/\∀l,l<n->wW m' l=ZC->yx rs l=ZA (i+l)
 |0,i,rs,m',_=>⟨WG _,λl hl=>YG⟩
 |n+1,i,rs,[],h=>by simp[zA]at h
 |n+1,i,rs,ZB::m,h=>by
  simp only[zA]at h
  obtain⟨h1,h2⟩:=Du n (i+1) (rs.drop 1) m h;refine⟨by simp;omega,λl hl vE=>?_⟩
  cases l with
  |zero=>simp[wW]at vE
  |succ l=>
   have:=h2 l YG (by simpa[wW]using vE)
   cases rs with
   |nil=>simp[yx]at this
   |cons x rs=>
    rw[Rb];rw[show i+(l+1)=i+1+l by omega]
    simpa using this
 |n+1,i,ZA k::rs,ZA mb::m,h=>by
  simp only[zA,VN,decide_eq_true_eq]at h
  obtain⟨h1,h2⟩:=Du n (i+1) rs m h.2;refine⟨by simp;omega,λl hl vE=>?_⟩
  cases l with
  |zero=>rw[Zga,h.1];rfl
  |succ l=>
   rw[Rb,show i+(l+1)=i+1+l by omega]
   exact h2 l YG (by simpa[wW]using vE)
 |n+1,i,ZB::rs,ZA mb::m,h=>by simp[zA]at h
 |n+1,i,[],ZA mb::m,h=>by simp[zA]at h
theorem Zkd(hT:J9 (yx rs) m m' t t')(hM:pg rs m m' rs m')(hi:PU rs=ZC)(hl:zA n0 0 rs m'=ZC):tz n0 t m t' m':=
 .one ⟨yx rs,hT,λl nZ hm=>(yy rs m' hM l nZ hm).imp (λ⟨k,mb,a,b,c⟩=>⟨k,mb,a,b,c.1,c.2 k b⟩) id,λl l' k _ _=>PW rs hi l l' k,λl PJ vE=>by
  have:=(Du n0 0 rs m' hl).2 l PJ vE
  simpa using this,(Du n0 0 rs m' hl).1⟩
end
abbrev aI(x:Int):List PV:=[vi x]
abbrev km(x:ByteArray):List PV:=[vs x]
abbrev H9(x:Bool):List PV:=[vb x]
def qJ{α:Type}(f:α->Nat)(xs:List α):Nat:=xs.length+(xs.map f).sum
def fR(n:Int):Prop:=(Lit.int .i64 n).wf=ZC
def zK(s:ByteArray):Prop:=s.size<=maxLen
def okS{α:Type}(f:α->Prop)(xs:List α):Prop:=xs.length<=maxLen/\∀y∈xs,f y
theorem ir(l:Int)(n:Nat):(l<n/\kz l n=-1)\/(n<=l/\kz l n=l-n):=by unfold kz;split<;>omega
@[ext] structure fF where
 ax:Int
 bZ:Int
 aX:ByteArray
 deriving DecidableEq
abbrev sE(x:fF):List PV:=[vi x.ax,vi x.bZ,vs x.aX]
def Nr(x:fF):Prop:=fR x.ax/\fR x.bZ/\zK x.aX
def wk(x:fF):Nat:=x.aX.size
@[ext] structure aM where
 label:fF
 ar:ByteArray
 ab:Int
 bb:List Int
 value:Int
 deriving DecidableEq
abbrev bq(x:aM):List PV:=[vi x.label.ax,vi x.label.bZ,vs x.label.aX,vs x.ar,vi x.ab,.sl (x.bb.map aI),vi x.value]
def zJ(x:aM):Prop:=Nr x.label/\zK x.ar/\fR x.ab/\okS fR x.bb/\fR x.value
def cS(x:aM):Nat:=wk x.label+x.ar.size+x.bb.length
@[ext] structure bF where
 first:ByteArray
 last:ByteArray
 deriving DecidableEq
abbrev b6(x:bF):List PV:=[vs x.first,vs x.last]
def Nu(x:bF):Prop:=zK x.first/\zK x.last
def om(x:bF):Nat:=x.first.size+x.last.size
@[ext] structure bH where
 nD:Int
 ax:Int
 lT:Int
 nK:Int
 deriving DecidableEq
abbrev b9(x:bH):List PV:=[vi x.nD,vi x.ax,vi x.lT,vi x.nK]
def TA(x:bH):Prop:=fR x.nD/\fR x.ax/\fR x.lT/\fR x.nK
@[ext] structure bM where
 ar:ByteArray
 aX:ByteArray
 start:Int
 oS:Int
 AW:Int
 jl:Int
 deriving DecidableEq
abbrev br(x:bM):List PV:=[vs x.ar,vs x.aX,vi x.start,vi x.oS,vi x.AW,vi x.jl]
def Zad(x:bM):Prop:=zK x.ar/\zK x.aX/\fR x.start/\fR x.oS/\fR x.AW/\fR x.jl
def ub(x:bM):Nat:=x.ar.size+x.aX.size
@[ext] structure ak where
 aB:List bM
 off:List Int
 change:Int
 deriving DecidableEq
abbrev bE(x:ak):List PV:=[.sl (x.aB.map br),.sl (x.off.map aI),vi x.change]
def EK(x:ak):Prop:=okS Zad x.aB/\okS fR x.off/\fR x.change
def mw(x:ak):Nat:=qJ ub x.aB+x.off.length
@[ext] structure aw where
 bG:Int
 day:Int
 deriving DecidableEq
abbrev aS(x:aw):List PV:=[vi x.bG,vi x.day]
def Ca(x:aw):Prop:=fR x.bG/\fR x.day
@[ext] structure aj where
 bo:Int
 aV:aw
 ab:Int
 deriving DecidableEq
abbrev aC(x:aj):List PV:=[vi x.bo,vi x.aV.bG,vi x.aV.day,vi x.ab]
def EJ(x:aj):Prop:=fR x.bo/\Ca x.aV/\fR x.ab
@[ext] structure bc where
 bo:Int
 aO:Int
 kind:Int
 place:ByteArray
 aV:aw
 deriving DecidableEq
abbrev bt(x:bc):List PV:=[vi x.bo,vi x.aO,vi x.kind,vs x.place,vi x.aV.bG,vi x.aV.day]
def Ns(x:bc):Prop:=fR x.bo/\fR x.aO/\fR x.kind/\zK x.place/\Ca x.aV
def tk(x:bc):Nat:=x.place.size
@[ext] structure ay where
 ar:ByteArray
 aX:ByteArray
 ax:Int
 ab:Int
 aO:Int
 ec:Int
 aK:List aw
 aN:Int
 state:Int
 place:ByteArray
 bK:Int
 deriving DecidableEq
abbrev aY(x:ay):List PV:=[vs x.ar,vs x.aX,vi x.ax,vi x.ab,vi x.aO,vi x.ec,.sl (x.aK.map aS),vi x.aN,vi x.state,vs x.place,vi x.bK]
def G8(x:ay):Prop:=zK x.ar/\zK x.aX/\fR x.ax/\fR x.ab/\fR x.aO/\fR x.ec/\okS Ca x.aK/\fR x.aN/\fR x.state/\zK x.place/\fR x.bK
def gA(x:ay):Nat:=x.ar.size+x.aX.size+x.aK.length+x.place.size
@[ext] structure az where
 aa:ak
 ae:List ay
 aq:List aj
 ah:List aw
 now:Int
 aJ:List bc
 skip:List Int
 aT:Int
 deriving DecidableEq
abbrev fa(x:az):List PV:=[.sl (x.aa.aB.map br),.sl (x.aa.off.map aI),vi x.aa.change,.sl (x.ae.map aY),.sl (x.aq.map aC),.sl (x.ah.map aS),vi x.now,.sl (x.aJ.map bt),.sl (x.skip.map aI),vi x.aT]
def Nt(x:az):Prop:=EK x.aa/\okS G8 x.ae/\okS EJ x.aq/\okS Ca x.ah/\fR x.now/\okS Ns x.aJ/\okS fR x.skip/\fR x.aT
def jz(x:az):Nat:=mw x.aa+qJ gA x.ae+x.aq.length+x.ah.length+qJ tk x.aJ+x.skip.length
@[ext] structure aU where
 order:Int
 kind:Int
 bh:Int
 aO:Int
 deriving DecidableEq
abbrev bD(x:aU):List PV:=[vi x.order,vi x.kind,vi x.bh,vi x.aO]
def Tz(x:aU):Prop:=fR x.order/\fR x.kind/\fR x.bh/\fR x.aO
@[ext] structure ZJ where
 kind:Int
 av:aM
 order:Int
 bh:Int
 bn:Int
 aV:aw
 deriving DecidableEq
abbrev ZK(x:ZJ):List PV:=[vi x.kind,vi x.av.label.ax,vi x.av.label.bZ,vs x.av.label.aX,vs x.av.ar,vi x.av.ab,.sl (x.av.bb.map aI),vi x.av.value,vi x.order,vi x.bh,vi x.bn,vi x.aV.bG,vi x.aV.day]
def okAct(x:ZJ):Prop:=fR x.kind/\zJ x.av/\fR x.order/\fR x.bh/\fR x.bn/\Ca x.aV
def eJ(x:ZJ):Nat:=cS x.av
@[ext] structure ZI where
 world:az
 aP:List bF
 aR:List bH
 aF:List Int
 aG:List aM
 lines:List aU
 aE:List ZJ
 deriving DecidableEq
abbrev ZM(x:ZI):List PV:=[.sl (x.world.aa.aB.map br),.sl (x.world.aa.off.map aI),vi x.world.aa.change,.sl (x.world.ae.map aY),.sl (x.world.aq.map aC),.sl (x.world.ah.map aS),vi x.world.now,.sl (x.world.aJ.map bt),.sl (x.world.skip.map aI),vi x.world.aT,.sl (x.aP.map b6),.sl (x.aR.map b9),.sl (x.aF.map aI),.sl (x.aG.map bq),.sl (x.lines.map bD),.sl (x.aE.map ZK)]
def okOffice(x:ZI):Prop:=Nt x.world/\okS Nu x.aP/\okS TA x.aR/\okS fR x.aF/\okS zJ x.aG/\okS Tz x.lines/\okS okAct x.aE
def dZ(x:ZI):Nat:=jz x.world+qJ om x.aP+x.aR.length+x.aF.length+qJ cS x.aG+x.lines.length+qJ eJ x.aE
@[ext] structure Oq where
 id:Int
 dest:Int
 deriving DecidableEq
abbrev Bl(x:Oq):List PV:=[vi x.id,vi x.dest]
@[ext] structure Sm where
 cell:Int
 jl:Int
 held:List Oq
 deriving DecidableEq
abbrev Ef(x:Sm):List PV:=[vi x.cell,vi x.jl,.sl (x.held.map Bl)]
@[ext] structure Sn where
 cell:Int
 wait:List Oq
 deriving DecidableEq
abbrev Eg(x:Sn):List PV:=[vi x.cell,.sl (x.wait.map Bl)]
@[ext] structure UP where
 Zou:List Oq
 Zj3:List Sm
 Zk3:List Sn
 Zp2:List Int
 now:Int
 deriving DecidableEq
abbrev CC(x:UP):List PV:=[.sl (x.Zou.map Bl),.sl (x.Zj3.map Ef),.sl (x.Zk3.map Eg),.sl (x.Zp2.map aI),vi x.now]
@[ext] structure Zdm where
 id:Int
 own:Int
 jl:Int
 in_:Int
 box:Bool
 ZlA:Bool
 deriving DecidableEq
abbrev BG(x:Zdm):List PV:=[vi x.id,vi x.own,vi x.jl,vi x.in_,vb x.box,vb x.ZlA]
@[ext] structure UO where
 places:List ByteArray
 LH:List aw
 deriving DecidableEq
abbrev CB(x:UO):List PV:=[.sl (x.places.map km),.sl (x.LH.map aS)]
end Go.Proofs.YtbalgkakkoocjaaGreat
namespace Go.Proofs.YtbalgkakkoocjaaGreat
set_option maxRecDepth 10000
open Go.ChangeShapes Go.WideShapes Go.ChangeAt Go.RowKit Go.Deep
variable {cs:List Value}{fs:Array Field}{fuel:Nat}{t:TypeId}
section
variable {H:Type} {enc:TypeId×Value->H} {P:Program} {w:World} {base:Nat} {spare:Nat->Bool} {held:Bool}
theorem bx{x:DataW H×List MemPlace}(ht:P.underlying t=ZA (.struct fs))
 (h:DataW.trod enc P w base spare held fuel t cs=ZA x) (j:Nat) (f:Field) (hf:fs[j]?=ZA f):
 ∃y n,DataW.trod enc P w base spare held n f.type ((cs.drop f.offset).take (P.cellsOf f.type))=ZA y:=by
 obtain⟨xs,n,_,_,_,hlen,hg⟩:=DataW.trod_struct ht h;have hj:j<xs.length:=by rw[hlen];exact(Array.getElem?_eq_some_iff.1 hf).1
 exact⟨xs[j],n,(hg j f hf).trans (VF hj)⟩
theorem sH{x:DataW H×List MemPlace}(ht:P.underlying t=ZA (.struct fs))
 (h:DataW.trod enc P w base spare held fuel t cs=ZA x):cs.length=P.cellsOf t:=by
 obtain⟨xs,n,_,_,hl,_,_⟩:=DataW.trod_struct ht h;exact hl
theorem Zdr(a:Addr)(i j:Nat):(a.add i).add j=a.add (i+j):=by
 unfold Addr.add
 by_cases hi:i=0<;>by_cases hj:j=0<;>simp[hi,hj,Xv]
end
def Reads(w:World)(ps:List PV)(cs:List Value):Prop:=
 ps.length=cs.length/\∀(j:Nat) (p:PV) (x:Value),ps[j]?=ZA p->cs[j]?=ZA x->x.oneCell'=ZC/\cf w (λb=>b<w.heap.size) p x
def rS(P:Program)(t:TypeId){α:Type}(f:α->List PV)(ok:α->Prop):Prop:=
 ∀{H:Type} {enc:TypeId×Value->H} {w:World} {base:Nat} {spare:Nat->Bool} {held:Bool} {fuel:Nat} {cs:List Value} {x:DataW H×List MemPlace},
  DataW.trod enc P w base spare held fuel t cs=ZA x->∃a:α,Reads w (f a) cs/\ok a
section
variable {w:World}
theorem bk{p q:List PV}{o k k':Nat}(hk:k'=k)(h:Reads w p ((cs.drop o).take k'))(h':Reads w q (cs.drop (o+k)))(hl:o+k<=cs.length):Reads w (p++q) (cs.drop o):=by
 subst hk;have hp:p.length=k':=by have:=h.1;simp at this;omega
 refine⟨by have:=h'.1;simp at this⊢;omega,λj c x hj hx=>?_⟩
 by_cases hjk:j<k'
 ·rw[Wi YG]at hj
  exact h.2 j c x hj (by rw[List.getElem?_take_of_lt hjk];exact hx)
 ·rw[V9 YG]at hj
  refine h'.2 (j-k') c x (by rw[<-hp];exact hj) ?_
  rw[List.getElem?_drop]at hx⊢
  rw[<-hx];congr 1;omega
theorem reads_nil{o:Nat}(h:cs.length<=o):Reads w [] (cs.drop o):=by
 refine⟨by simp;omega,by simp⟩
theorem xX{p:PV}{x:Value}(h1:x.oneCell'=ZC)(h:cf w (λb=>b<w.heap.size) p x):Reads w [p] [x]:=by
 refine⟨rfl,λj c y hj hy=>?_⟩
 cases j with
 |zero=>simp at hj hy;subst hj hy;exact⟨h1,h⟩
 |succ j=>simp at hj
end
section
variable {P:Program}
theorem Zd5(ht:P.underlying t=ZA (.int .i64)):rS P t (λn:Int=>[vi n]) (λn=>(Lit.int .i64 n).wf=ZC):=by
 intro H enc w base spare held fuel cs x h;obtain⟨n,rfl,_,hw⟩:=DataW.trod_int ht h;exact⟨n,xX rfl (.v _ rfl),hw⟩
theorem Zd6(ht:P.underlying t=ZA .string):rS P t (λs:ByteArray=>[vs s]) (λs=>s.size<=maxLen):=by
 intro H enc w base spare held fuel cs x h;obtain⟨s,rfl,_,hw⟩:=DataW.trod_string ht h;exact⟨s,xX rfl (.v _ rfl),hw⟩
theorem ZN{α:Type}{f:α->List PV}{ok:α->Prop}{t e:TypeId}(ht:P.underlying t=ZA (.slice e))(hk:0<P.cellsOf e)(Zpl:rS P e f ok):
 rS P t (λxs:List α=>[.sl (xs.map f)]) (λxs=>xs.length<=maxLen/\∀y∈xs,ok y):=by
 intro H enc w base spare held fuel cs x h
 rcases open_slice ht h with⟨rfl,_⟩ |⟨a,n,c,m,k,D,Pl,rfl,_,hl,hm,hmm,_,hi⟩
 ·exact⟨[],xX rfl (.nil _ _),by unfold maxLen;simp,by simp⟩
 have hnm:n<=m:=by rw[hmm];split<;>omega
 have hex:∀i:_root_.Fin n,∃(a':α) (sm:List Value),ok a'/\Reads w (f a') sm/\w.cells? base (a.add (i*P.cellsOf e)) (P.cellsOf e)=ZA sm:=by
  intro i;obtain⟨sm,hc,Vo⟩:=hi i YG;obtain⟨a',hr,ji⟩:=Zpl Vo;exact⟨a',sm,ji,hr,hc⟩
 obtain⟨g,hg⟩:=WR hex;obtain⟨cc,Gf⟩:=WR hg;refine⟨XE g,?_,by simp;omega,λy hy=>by obtain⟨i,rfl⟩:=List.mem_ofFn.1 hy;exact(Gf i).1⟩
 rcases Nat.eq_zero_or_pos n with h0|gD
 ·subst h0
  rw[List.ofFn_zero];exact xX rfl (.nil _ _)
 have Fq:∀(i:_root_.Fin n) (j:Nat),j<P.cellsOf e->w.cell? (a.add (i*P.cellsOf e+j))=(cc i)[j]?:=by
  intro i j hj;obtain⟨_,_,h3⟩:=World.cells?_some (Gf i).2.2;have:=h3 j hj
  rwa[Zdr]at this
 have hlen:∀i:_root_.Fin n,(cc i).length=P.cellsOf e:=λi=>(World.cells?_some (Gf i).2.2).2.1
 have SO:w.cell? (a.add (0*P.cellsOf e+0))=ZA ((cc ⟨0,gD⟩)[0]'(by rw[hlen];exact hk)):=by
  rw[Fq ⟨0,gD⟩ 0 hk];exact VF _
 have hs:=World.cell?_spot SO;have hb:=World.block_lt_of_cell? _ _ SO;obtain⟨b,off,spot⟩:=a;have ZmX:∀q,(⟨b,off,ZB⟩:Addr).add q=⟨b,off+q,ZB⟩:=λq=>by unfold Addr.add;split<;>simp_all
 have Znr:spot=none:=by simpa[Addr.add]using hs
 subst Znr;rw[ZmX]at hb
 have D2:∀(i:Nat) (ps:List PV),((XE g).map f)[i]?=ZA ps->∃hi:i<n,ps=f (g ⟨i,hi⟩):=by
  intro i ps Kh;rw[List.getElem?_map]at Kh
  obtain⟨y,hy,rfl⟩:=VT.1 Kh;have hi:i<n:=by simpa using(VH.1 hy).1
  refine⟨hi,?_⟩;simp[hi]at hy
  rw[hy]
 have hu:∀(i:Nat) (ps:List PV) (j:Nat) (p:PV),((XE g).map f)[i]?=ZA ps->ps[j]?=ZA p->
  ∃x,w.cell? ⟨b,off+i*P.cellsOf e+j,ZB⟩=ZA x/\x.oneCell'=ZC/\cf w (λb=>b<w.heap.size) p x:=by
  intro i ps j p Kh hp;obtain⟨hi,rfl⟩:=D2 i ps Kh;have hr:=(Gf ⟨i,hi⟩).2.1;have hj:j<P.cellsOf e:=by rw[<-hlen ⟨i,hi⟩,<-hr.1];exact(VH.1 hp).1
  have hx:=Fq ⟨i,hi⟩ j hj;rw[ZmX,<-Xv]at hx
  have yr:j<(cc ⟨i,hi⟩).length:=by rw[hlen];exact hj
  rw[VF yr]at hx
  exact⟨_,hx,hr.2 j p _ hp (VF yr)⟩
 have h:=cf.sl (w:=w) (S:=λb=>b<w.heap.size) ((XE g).map f) b off (P.cellsOf e) c (λi j=>(w.cell? ⟨b,off+i*P.cellsOf e+j,ZB⟩).getD .nilIface) hb hk Zc hm
  (λi ps Kh=>by obtain⟨hi,rfl⟩:=D2 i ps Kh;rw[(Gf ⟨i,hi⟩).2.1.1,hlen])
  (λi ps j p Kh hp=>by obtain⟨x,hx,_⟩:=hu i ps j p Kh hp;rw[hx];rfl)
  (λi ps j p Kh hp=>by obtain⟨x,hx,h1,_⟩:=hu i ps j p Kh hp;rw[hx];exact h1)
  (λi ps j p Kh hp=>by obtain⟨x,hx,_,h2⟩:=hu i ps j p Kh hp;rw[hx];exact h2)
 simp only[VX,List.length_ofFn]at h
 exact xX rfl h
end
theorem ca:prog.cellsOf 3=1:=by kernel_rfl
theorem di:rS prog 3 aI fR:=Zd5 Tryz.underlying3
theorem oV:prog.cellsOf 9=1:=by kernel_rfl
theorem uf:rS prog 9 km zK:=Zd6 Tryz.underlying9
theorem Fe:prog.cellsOf 70=3:=by kernel_rfl
theorem Zbm:rS prog 70 sE Nr:=by
 intro H enc w base spare held fuel cs x h;have hl:=(sH Tryz.underlying70 h).trans Fe;obtain⟨y0,n0,h0⟩:=bx Tryz.underlying70 h 0 _ rfl;obtain⟨a0,r0,w0⟩:=di h0;obtain⟨y1,n1,h1⟩:=bx Tryz.underlying70 h 1 _ rfl;obtain⟨a1,r1,w1⟩:=di h1;obtain⟨y2,n2,h2⟩:=bx Tryz.underlying70 h 2 _ rfl;obtain⟨a2,r2,w2⟩:=uf h2;have hr:=(bk (o:=0) ca r0 (bk (o:=1) ca r1 (bk (o:=2) oV r2 (reads_nil YG) YG) YG) YG);exact⟨⟨a0,a1,a2⟩,hr,w0,w1,w2⟩
theorem yg:prog.cellsOf 25=1:=by kernel_rfl
theorem CJ:rS prog 25 (λxs:List Int=>[.sl (xs.map aI)]) (okS fR):=ZN Tryz.underlying25 (by rw[ca];decide) di
theorem yh:prog.cellsOf 72=7:=by kernel_rfl
theorem Iu:rS prog 72 bq zJ:=by
 intro H enc w base spare held fuel cs x h;have hl:=(sH Tryz.underlying72 h).trans yh;obtain⟨y0,n0,h0⟩:=bx Tryz.underlying72 h 0 _ rfl;obtain⟨a0,r0,w0⟩:=Zbm h0;obtain⟨y1,n1,h1⟩:=bx Tryz.underlying72 h 1 _ rfl;obtain⟨a1,r1,w1⟩:=uf h1;obtain⟨y2,n2,h2⟩:=bx Tryz.underlying72 h 2 _ rfl;obtain⟨a2,r2,w2⟩:=di h2;obtain⟨y3,n3,h3⟩:=bx Tryz.underlying72 h 3 _ rfl;obtain⟨a3,r3,w3⟩:=CJ h3;obtain⟨y4,n4,h4⟩:=bx Tryz.underlying72 h 4 _ rfl;obtain⟨a4,r4,w4⟩:=di h4;have hr:=(bk (o:=0) Fe r0 (bk (o:=3) oV r1 (bk (o:=4) ca r2 (bk (o:=5) yg r3 (bk (o:=6) ca r4 (reads_nil YG) YG) YG) YG) YG) YG);exact⟨⟨a0,a1,a2,a3,a4⟩,hr,w0,w1,w2,w3,w4⟩
theorem Ig:prog.cellsOf 188=2:=by kernel_rfl
theorem Zec:rS prog 188 b6 Nu:=by
 intro H enc w base spare held fuel cs x h;have hl:=(sH Tryz.underlying188 h).trans Ig;obtain⟨y0,n0,h0⟩:=bx Tryz.underlying188 h 0 _ rfl;obtain⟨a0,r0,w0⟩:=uf h0;obtain⟨y1,n1,h1⟩:=bx Tryz.underlying188 h 1 _ rfl;obtain⟨a1,r1,w1⟩:=uf h1;have hr:=(bk (o:=0) oV r0 (bk (o:=1) oV r1 (reads_nil YG) YG) YG);exact⟨⟨a0,a1⟩,hr,w0,w1⟩
theorem Ic:prog.cellsOf 198=4:=by kernel_rfl
theorem Zea:rS prog 198 b9 TA:=by
 intro H enc w base spare held fuel cs x h;have hl:=(sH Tryz.underlying198 h).trans Ic;obtain⟨y0,n0,h0⟩:=bx Tryz.underlying198 h 0 _ rfl;obtain⟨a0,r0,w0⟩:=di h0;obtain⟨y1,n1,h1⟩:=bx Tryz.underlying198 h 1 _ rfl;obtain⟨a1,r1,w1⟩:=di h1;obtain⟨y2,n2,h2⟩:=bx Tryz.underlying198 h 2 _ rfl;obtain⟨a2,r2,w2⟩:=di h2;obtain⟨y3,n3,h3⟩:=bx Tryz.underlying198 h 3 _ rfl;obtain⟨a3,r3,w3⟩:=di h3;have hr:=(bk (o:=0) ca r0 (bk (o:=1) ca r1 (bk (o:=2) ca r2 (bk (o:=3) ca r3 (reads_nil YG) YG) YG) YG) YG);exact⟨⟨a0,a1,a2,a3⟩,hr,w0,w1,w2,w3⟩
theorem KK:prog.cellsOf 301=6:=by kernel_rfl
theorem Zhg:rS prog 301 br Zad:=by
 intro H enc w base spare held fuel cs x h;have hl:=(sH Tryz.underlying301 h).trans KK;obtain⟨y0,n0,h0⟩:=bx Tryz.underlying301 h 0 _ rfl;obtain⟨a0,r0,w0⟩:=uf h0;obtain⟨y1,n1,h1⟩:=bx Tryz.underlying301 h 1 _ rfl;obtain⟨a1,r1,w1⟩:=uf h1;obtain⟨y2,n2,h2⟩:=bx Tryz.underlying301 h 2 _ rfl;obtain⟨a2,r2,w2⟩:=di h2;obtain⟨y3,n3,h3⟩:=bx Tryz.underlying301 h 3 _ rfl;obtain⟨a3,r3,w3⟩:=di h3;obtain⟨y4,n4,h4⟩:=bx Tryz.underlying301 h 4 _ rfl;obtain⟨a4,r4,w4⟩:=di h4;obtain⟨y5,n5,h5⟩:=bx Tryz.underlying301 h 5 _ rfl;obtain⟨a5,r5,w5⟩:=di h5;have hr:=(bk (o:=0) oV r0 (bk (o:=1) oV r1 (bk (o:=2) ca r2 (bk (o:=3) ca r3 (bk (o:=4) ca r4 (bk (o:=5) ca r5 (reads_nil YG) YG) YG) YG) YG) YG) YG);exact⟨⟨a0,a1,a2,a3,a4,a5⟩,hr,w0,w1,w2,w3,w4,w5⟩
theorem Sv:prog.cellsOf 54=1:=by kernel_rfl
theorem Zd8:rS prog 54 (λxs:List bM=>[.sl (xs.map br)]) (okS Zad):=ZN Tryz.underlying54 (by rw[KK];decide) Zhg
theorem Bn:prog.cellsOf 56=3:=by kernel_rfl
theorem Pc:rS prog 56 bE EK:=by
 intro H enc w base spare held fuel cs x h;have hl:=(sH Tryz.underlying56 h).trans Bn;obtain⟨y0,n0,h0⟩:=bx Tryz.underlying56 h 0 _ rfl;obtain⟨a0,r0,w0⟩:=Zd8 h0;obtain⟨y1,n1,h1⟩:=bx Tryz.underlying56 h 1 _ rfl;obtain⟨a1,r1,w1⟩:=CJ h1;obtain⟨y2,n2,h2⟩:=bx Tryz.underlying56 h 2 _ rfl;obtain⟨a2,r2,w2⟩:=di h2;have hr:=(bk (o:=0) Sv r0 (bk (o:=1) yg r1 (bk (o:=2) ca r2 (reads_nil YG) YG) YG) YG);exact⟨⟨a0,a1,a2⟩,hr,w0,w1,w2⟩
theorem vK:prog.cellsOf 73=2:=by kernel_rfl
theorem CK:rS prog 73 aS Ca:=by
 intro H enc w base spare held fuel cs x h;have hl:=(sH Tryz.underlying73 h).trans vK;obtain⟨y0,n0,h0⟩:=bx Tryz.underlying73 h 0 _ rfl;obtain⟨a0,r0,w0⟩:=di h0;obtain⟨y1,n1,h1⟩:=bx Tryz.underlying73 h 1 _ rfl;obtain⟨a1,r1,w1⟩:=di h1;have hr:=(bk (o:=0) ca r0 (bk (o:=1) ca r1 (reads_nil YG) YG) YG);exact⟨⟨a0,a1⟩,hr,w0,w1⟩
theorem Bm:prog.cellsOf 269=4:=by kernel_rfl
theorem Pb:rS prog 269 aC EJ:=by
 intro H enc w base spare held fuel cs x h;have hl:=(sH Tryz.underlying269 h).trans Bm;obtain⟨y0,n0,h0⟩:=bx Tryz.underlying269 h 0 _ rfl;obtain⟨a0,r0,w0⟩:=di h0;obtain⟨y1,n1,h1⟩:=bx Tryz.underlying269 h 1 _ rfl;obtain⟨a1,r1,w1⟩:=CK h1;obtain⟨y2,n2,h2⟩:=bx Tryz.underlying269 h 2 _ rfl;obtain⟨a2,r2,w2⟩:=di h2;have hr:=(bk (o:=0) ca r0 (bk (o:=1) vK r1 (bk (o:=3) ca r2 (reads_nil YG) YG) YG) YG);exact⟨⟨a0,a1,a2⟩,hr,w0,w1,w2⟩
theorem Ie:prog.cellsOf 262=6:=by kernel_rfl
theorem Zeb:rS prog 262 bt Ns:=by
 intro H enc w base spare held fuel cs x h;have hl:=(sH Tryz.underlying262 h).trans Ie;obtain⟨y0,n0,h0⟩:=bx Tryz.underlying262 h 0 _ rfl;obtain⟨a0,r0,w0⟩:=di h0;obtain⟨y1,n1,h1⟩:=bx Tryz.underlying262 h 1 _ rfl;obtain⟨a1,r1,w1⟩:=di h1;obtain⟨y2,n2,h2⟩:=bx Tryz.underlying262 h 2 _ rfl;obtain⟨a2,r2,w2⟩:=di h2;obtain⟨y3,n3,h3⟩:=bx Tryz.underlying262 h 3 _ rfl;obtain⟨a3,r3,w3⟩:=uf h3;obtain⟨y4,n4,h4⟩:=bx Tryz.underlying262 h 4 _ rfl;obtain⟨a4,r4,w4⟩:=CK h4;have hr:=(bk (o:=0) ca r0 (bk (o:=1) ca r1 (bk (o:=2) ca r2 (bk (o:=3) oV r3 (bk (o:=4) vK r4 (reads_nil YG) YG) YG) YG) YG) YG);exact⟨⟨a0,a1,a2,a3,a4⟩,hr,w0,w1,w2,w3,w4⟩
theorem Fg:prog.cellsOf 59=1:=by kernel_rfl
theorem KT:rS prog 59 (λxs:List aw=>[.sl (xs.map aS)]) (okS Ca):=ZN Tryz.underlying59 (by rw[vK];decide) CK
theorem Ff:prog.cellsOf 259=11:=by kernel_rfl
theorem Zbo:rS prog 259 aY G8:=by
 intro H enc w base spare held fuel cs x h;have hl:=(sH Tryz.underlying259 h).trans Ff;obtain⟨y0,n0,h0⟩:=bx Tryz.underlying259 h 0 _ rfl;obtain⟨a0,r0,w0⟩:=uf h0;obtain⟨y1,n1,h1⟩:=bx Tryz.underlying259 h 1 _ rfl;obtain⟨a1,r1,w1⟩:=uf h1;obtain⟨y2,n2,h2⟩:=bx Tryz.underlying259 h 2 _ rfl;obtain⟨a2,r2,w2⟩:=di h2;obtain⟨y3,n3,h3⟩:=bx Tryz.underlying259 h 3 _ rfl;obtain⟨a3,r3,w3⟩:=di h3;obtain⟨y4,n4,h4⟩:=bx Tryz.underlying259 h 4 _ rfl;obtain⟨a4,r4,w4⟩:=di h4;obtain⟨y5,n5,h5⟩:=bx Tryz.underlying259 h 5 _ rfl;obtain⟨a5,r5,w5⟩:=di h5;obtain⟨y6,n6,h6⟩:=bx Tryz.underlying259 h 6 _ rfl;obtain⟨a6,r6,w6⟩:=KT h6;obtain⟨y7,n7,h7⟩:=bx Tryz.underlying259 h 7 _ rfl;obtain⟨a7,r7,w7⟩:=di h7;obtain⟨y8,n8,h8⟩:=bx Tryz.underlying259 h 8 _ rfl;obtain⟨a8,r8,w8⟩:=di h8;obtain⟨y9,n9,h9⟩:=bx Tryz.underlying259 h 9 _ rfl;obtain⟨a9,r9,w9⟩:=uf h9;obtain⟨eE,n10,Ge⟩:=bx Tryz.underlying259 h 10 _ rfl;obtain⟨a10,r10,w10⟩:=di Ge;have hr:=(bk (o:=0) oV r0 (bk (o:=1) oV r1 (bk (o:=2) ca r2 (bk (o:=3) ca r3 (bk (o:=4) ca r4 (bk (o:=5) ca r5 (bk (o:=6) Fg r6 (bk (o:=7) ca r7 (bk (o:=8) ca r8 (bk (o:=9) oV r9 (bk (o:=10) ca r10 (reads_nil YG) YG) YG) YG) YG) YG) YG) YG) YG) YG) YG) YG);exact⟨⟨a0,a1,a2,a3,a4,a5,a6,a7,a8,a9,a10⟩,hr,w0,w1,w2,w3,w4,w5,w6,w7,w8,w9,w10⟩
theorem Mh:prog.cellsOf 57=1:=by kernel_rfl
theorem SE:rS prog 57 (λxs:List ay=>[.sl (xs.map aY)]) (okS G8):=ZN Tryz.underlying57 (by rw[Ff];decide) Zbo
theorem Ia:prog.cellsOf 58=1:=by kernel_rfl
theorem Mn:rS prog 58 (λxs:List aj=>[.sl (xs.map aC)]) (okS EJ):=ZN Tryz.underlying58 (by rw[Bm];decide) Pb
theorem OQ:prog.cellsOf 60=1:=by kernel_rfl
theorem Zbq:rS prog 60 (λxs:List bc=>[.sl (xs.map bt)]) (okS Ns):=ZN Tryz.underlying60 (by rw[Ie];decide) Zeb
theorem Fh:prog.cellsOf 62=10:=by kernel_rfl
theorem Zbr:rS prog 62 fa Nt:=by
 intro H enc w base spare held fuel cs x h;have hl:=(sH Tryz.underlying62 h).trans Fh;obtain⟨y0,n0,h0⟩:=bx Tryz.underlying62 h 0 _ rfl;obtain⟨a0,r0,w0⟩:=Pc h0;obtain⟨y1,n1,h1⟩:=bx Tryz.underlying62 h 1 _ rfl;obtain⟨a1,r1,w1⟩:=SE h1;obtain⟨y2,n2,h2⟩:=bx Tryz.underlying62 h 2 _ rfl;obtain⟨a2,r2,w2⟩:=Mn h2;obtain⟨y3,n3,h3⟩:=bx Tryz.underlying62 h 3 _ rfl;obtain⟨a3,r3,w3⟩:=KT h3;obtain⟨y4,n4,h4⟩:=bx Tryz.underlying62 h 4 _ rfl;obtain⟨a4,r4,w4⟩:=di h4;obtain⟨y5,n5,h5⟩:=bx Tryz.underlying62 h 5 _ rfl;obtain⟨a5,r5,w5⟩:=Zbq h5;obtain⟨y6,n6,h6⟩:=bx Tryz.underlying62 h 6 _ rfl;obtain⟨a6,r6,w6⟩:=CJ h6;obtain⟨y7,n7,h7⟩:=bx Tryz.underlying62 h 7 _ rfl;obtain⟨a7,r7,w7⟩:=di h7;have hr:=(bk (o:=0) Bn r0 (bk (o:=3) Mh r1 (bk (o:=4) Ia r2 (bk (o:=5) Fg r3 (bk (o:=6) ca r4 (bk (o:=7) OQ r5 (bk (o:=8) yg r6 (bk (o:=9) ca r7 (reads_nil YG) YG) YG) YG) YG) YG) YG) YG) YG);exact⟨⟨a0,a1,a2,a3,a4,a5,a6,a7⟩,hr,w0,w1,w2,w3,w4,w5,w6,w7⟩
theorem Ib:prog.cellsOf 200=4:=by kernel_rfl
theorem Zd9:rS prog 200 bD Tz:=by
 intro H enc w base spare held fuel cs x h;have hl:=(sH Tryz.underlying200 h).trans Ib;obtain⟨y0,n0,h0⟩:=bx Tryz.underlying200 h 0 _ rfl;obtain⟨a0,r0,w0⟩:=di h0;obtain⟨y1,n1,h1⟩:=bx Tryz.underlying200 h 1 _ rfl;obtain⟨a1,r1,w1⟩:=di h1;obtain⟨y2,n2,h2⟩:=bx Tryz.underlying200 h 2 _ rfl;obtain⟨a2,r2,w2⟩:=di h2;obtain⟨y3,n3,h3⟩:=bx Tryz.underlying200 h 3 _ rfl;obtain⟨a3,r3,w3⟩:=di h3;have hr:=(bk (o:=0) ca r0 (bk (o:=1) ca r1 (bk (o:=2) ca r2 (bk (o:=3) ca r3 (reads_nil YG) YG) YG) YG) YG);exact⟨⟨a0,a1,a2,a3⟩,hr,w0,w1,w2,w3⟩
theorem KJ:prog.cellsOf 75=13:=by kernel_rfl
theorem dec_Act:rS prog 75 ZK okAct:=by
 intro H enc w base spare held fuel cs x h;have hl:=(sH Tryz.underlying75 h).trans KJ;obtain⟨y0,n0,h0⟩:=bx Tryz.underlying75 h 0 _ rfl;obtain⟨a0,r0,w0⟩:=di h0;obtain⟨y1,n1,h1⟩:=bx Tryz.underlying75 h 1 _ rfl;obtain⟨a1,r1,w1⟩:=Iu h1;obtain⟨y2,n2,h2⟩:=bx Tryz.underlying75 h 2 _ rfl;obtain⟨a2,r2,w2⟩:=di h2;obtain⟨y3,n3,h3⟩:=bx Tryz.underlying75 h 3 _ rfl;obtain⟨a3,r3,w3⟩:=di h3;obtain⟨y4,n4,h4⟩:=bx Tryz.underlying75 h 4 _ rfl;obtain⟨a4,r4,w4⟩:=di h4;obtain⟨y5,n5,h5⟩:=bx Tryz.underlying75 h 5 _ rfl;obtain⟨a5,r5,w5⟩:=CK h5;have hr:=(bk (o:=0) ca r0 (bk (o:=1) yh r1 (bk (o:=8) ca r2 (bk (o:=9) ca r3 (bk (o:=10) ca r4 (bk (o:=11) vK r5 (reads_nil YG) YG) YG) YG) YG) YG) YG);exact⟨⟨a0,a1,a2,a3,a4,a5⟩,hr,w0,w1,w2,w3,w4,w5⟩
theorem OR:prog.cellsOf 63=1:=by kernel_rfl
theorem Zbs:rS prog 63 (λxs:List bF=>[.sl (xs.map b6)]) (okS Nu):=ZN Tryz.underlying63 (by rw[Ig];decide) Zec
theorem OP:prog.cellsOf 64=1:=by kernel_rfl
theorem Zbp:rS prog 64 (λxs:List bH=>[.sl (xs.map b9)]) (okS TA):=ZN Tryz.underlying64 (by rw[Ic];decide) Zea
theorem J8:prog.cellsOf 65=1:=by kernel_rfl
theorem Pd:rS prog 65 (λxs:List aM=>[.sl (xs.map bq)]) (okS zJ):=ZN Tryz.underlying65 (by rw[yh];decide) Iu
theorem OO:prog.cellsOf 66=1:=by kernel_rfl
theorem Zbn:rS prog 66 (λxs:List aU=>[.sl (xs.map bD)]) (okS Tz):=ZN Tryz.underlying66 (by rw[Ib];decide) Zd9
theorem Su:prog.cellsOf 67=1:=by kernel_rfl
theorem Zd7:rS prog 67 (λxs:List ZJ=>[.sl (xs.map ZK)]) (okS okAct):=ZN Tryz.underlying67 (by rw[KJ];decide) dec_Act
theorem Mg:prog.cellsOf 69=16:=by kernel_rfl
theorem dec_Office:rS prog 69 ZM okOffice:=by
 intro H enc w base spare held fuel cs x h;have hl:=(sH Tryz.underlying69 h).trans Mg;obtain⟨y0,n0,h0⟩:=bx Tryz.underlying69 h 0 _ rfl;obtain⟨a0,r0,w0⟩:=Zbr h0;obtain⟨y1,n1,h1⟩:=bx Tryz.underlying69 h 1 _ rfl;obtain⟨a1,r1,w1⟩:=Zbs h1;obtain⟨y2,n2,h2⟩:=bx Tryz.underlying69 h 2 _ rfl;obtain⟨a2,r2,w2⟩:=Zbp h2;obtain⟨y3,n3,h3⟩:=bx Tryz.underlying69 h 3 _ rfl;obtain⟨a3,r3,w3⟩:=CJ h3;obtain⟨y4,n4,h4⟩:=bx Tryz.underlying69 h 4 _ rfl;obtain⟨a4,r4,w4⟩:=Pd h4;obtain⟨y5,n5,h5⟩:=bx Tryz.underlying69 h 5 _ rfl;obtain⟨a5,r5,w5⟩:=Zbn h5;obtain⟨y6,n6,h6⟩:=bx Tryz.underlying69 h 6 _ rfl;obtain⟨a6,r6,w6⟩:=Zd7 h6;have hr:=(bk (o:=0) Fh r0 (bk (o:=10) OR r1 (bk (o:=11) OP r2 (bk (o:=12) yg r3 (bk (o:=13) J8 r4 (bk (o:=14) OO r5 (bk (o:=15) Su r6 (reads_nil YG) YG) YG) YG) YG) YG) YG) YG);exact⟨⟨a0,a1,a2,a3,a4,a5,a6⟩,hr,w0,w1,w2,w3,w4,w5,w6⟩
end Go.Proofs.YtbalgkakkoocjaaGreat
