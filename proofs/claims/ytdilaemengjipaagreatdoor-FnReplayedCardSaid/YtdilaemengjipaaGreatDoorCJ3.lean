/- A part of the proof of the statement in the last file of this claim: texts on the language of the program and on its functions. No condition. -/
import Derived.Test.YtdilaemengjipaaGreatDoorCJ2
import Derived.Test.YtdilaemengjipaaGreatDoorCJ1
import Derived.ProofKit
import Derived.Deep.Slices
import Derived.Deep.Fields
import Derived.ChangeOld
import Derived.ChangeSame
import Derived.Test.YtdilaemengjipaaGreatDoorProg
set_option linter.unusedVariables false
set_option linter.unusedSimpArgs false
set_option linter.unusedSectionVars false
open Go.Value renaming int->Y1
open Go.IntKind renaming i64->Y2
open Go renaming undef->Y3
open Option renaming some->YW,none->YX
open Bool renaming true->YY,false->YZ
open Decidable renaming decide->Y0
open Go.Proofs.Tryz
open List renaming mem_of_getElem?->VW,getElem?_eq_some_iff->VU,replicate->V8,getElem?_append_left->Wu,take_succ_cons->WU,cons_append->XZ,map_congr_left->WB,map_cons->XI,mem_cons_of_mem->Wl,mem_cons_self->Wo,all_eq_true->V2,mem_map->WI,length_map->Wj,ofFn->Xs,getElem?_eq_getElem->VV,range->Ws,mem_range->WH,getElem?_map->Wk,length_cons->V0,length_nil->V1,mem_singleton->Wh
open Classical renaming axiomOfChoice->Xe
open Nat renaming add_assoc->XM,zero_le->Ww,lt_or_ge->Wv,zero_add->Wc
open _root_.Array renaming replicate->W3,getD_eq_getD_getElem?->Wz
open Option.some renaming injEq->V6,inj->VX
open Bool renaming and_eq_true->Wd
namespace Go.Proofs.YtdilaemengjipaaGreatDoor
set_option maxRecDepth 10000
open Go.RowKit
variable {T T':TypeId}{Ts:Array TypeId}{a:Option Addr}{cs ds ps zc:List PV}{fn:Func}{hi lo:Option PV}{id k k' l n:Nat}{m1 mm:Mem}{mb nH:MB}{oo:Oper}{p r:PV}{rr rs:List (Option Nat)}{s:ByteArray}{v:Value}{x y:Operand}
def dropped(ρ:Nat->Option Nat)(m':Mem)(k:Nat):Prop:=∀l,td m' l=YY->ρ l≠YW k
def Zbl(es:List (List PV)):Prop:=∀cs∈es,∀q∈cs,sq q=YY
inductive oW(ρ:Nat->Option Nat)(m m':Mem):PV->PV->Prop
 |un (p:PV):oW ρ m m' p .un
 |c (p:PV) (h:sq p=YY):oW ρ m m' p p
 |ms (l k:Nat) (h:ρ l=YW k) (hl:l<m'.length):oW ρ m m' (.ms k) (.ms l)
 |ss (l k a b:Nat) (h:ρ l=YW k) (hl:l<m'.length):oW ρ m m' (.ss k a b) (.ss l a b)
 |be (l k i o:Nat) (h:ρ l=YW k) (hl:l<m'.length):oW ρ m m' (.be k i o) (.be l i o)
 |Zcf (l:Nat) (h:ρ l=YX) (hl:l<m'.length):oW ρ m m' (.v (.slice YX 0 0)) (.ms l)
 |NK (c:Nat):oW ρ m m' (.v (.slice YX 0 c)) (.sl [])
 |fms (k:Nat) (mb:MB) (hm:m[k]?=YW (YW mb)) (hc:Zbl mb.es) (hd:dropped ρ m' k):oW ρ m m' (.ms k) (.sl mb.es)
 |fss (k a b:Nat) (mb:MB) (hm:m[k]?=YW (YW mb)) (hc:Zbl mb.es) (hd:dropped ρ m' k):oW ρ m m' (.ss k a b) (.sl ((mb.es.drop a).take (b-a)))
 |fbe (k i o:Nat) (mb:MB) (cs:List PV) (hm:m[k]?=YW (YW mb)) (hi:mb.es[i]?=YW cs) (hc:∀q∈cs,sq q=YY) (hd:dropped ρ m' k):oW ρ m m' (.be k i o) (.rp (cs.drop o))
 |fn (f:FuncId) (cs ds:List PV) (hl:ds.length=cs.length) (h:∀(j:Nat) (p r:PV),cs[j]?=YW p->ds[j]?=YW r->oW ρ m m' p r):oW ρ m m' (.fn f cs) (.fn f ds)
def rG(ρ:Nat->Option Nat)(m m':Mem):List PV->List PV->Prop
 | [],[]=>True
 |p::ps,r::rs=>oW ρ m m' p r/\rG ρ m m' ps rs
 |_,_=>False
inductive FK(ρ:Nat->Option Nat)(m m':Mem):PV->PV->Prop
 |c {p r:PV} (h:oW ρ m m' p r):FK ρ m m' p r
 |ag (cs ds:List PV) (h:rG ρ m m' cs ds):FK ρ m m' (.ag cs) (.ag ds)
def Cs(ρ:Nat->Option Nat)(m m':Mem):List PV->List PV->Prop
 | [],[]=>True
 |p::ps,r::rs=>FK ρ m m' p r/\Cs ρ m m' ps rs
 |_,_=>False
inductive D6(ρ:Nat->Option Nat)(m m':Mem):PV->PV->Prop
 |a {p r:PV} (h:FK ρ m m' p r):D6 ρ m m' p r
 |tu (cs ds:List PV) (h:Cs ρ m m' cs ds):D6 ρ m m' (.tu cs) (.tu ds)
def D8(ρ:Nat->Option Nat)(m m':Mem):List PV->List PV->Prop
 | [],[]=>True
 |p::ps,r::rs=>D6 ρ m m' p r/\D8 ρ m m' ps rs
 |_,_=>False
def yb(ρ:Nat->Option Nat)(m m':Mem):List (List PV)->List (List PV)->Prop
 | [],[]=>True
 |p::ps,r::rs=>rG ρ m m' p r/\yb ρ m m' ps rs
 |_,_=>False
def ZeD(ρ:Nat->Option Nat)(m m':Mem)(mb nH:MB):Prop:=
 nH.T.t=mb.T.t/\nH.k=mb.k/\((nH.es=mb.es/\Zbl mb.es)\/yb ρ m m' mb.es nH.es)
def Zco(m:Mem)(k:Nat)(q:Key):Prop:=∃(l:Nat) (mb:MB) (T:TypeId) (i:Nat) (cs:List PV) (j:Nat),m[l]?=YW (YW mb)/\mb.T.kd=YW T/\mb.es[i]?=YW cs/\cs[j]?=YW (PV.ms k)/\q=(mb.T.t,i,j)
def AdU(m:Mem)(k:Nat)(q:Key):Prop:=Zco m k q/\∀q',Zco m k q'->q'=q
def OX(ρ:Nat->Option Nat)(m m':Mem)(mb nH:MB):Prop:=
 ∀T,nH.T.kd=YW T->∀(i:Nat) (ds:List PV) (j:Nat) (es:List (List PV)),nH.es[i]?=YW ds->ds[j]?=YW (.sl es)->es≠[]->
  (mb.T.kd=YW T/\∃cs,mb.es[i]?=YW cs/\cs[j]?=YW (.sl es))\/
  ∃cs k mk,mb.es[i]?=YW cs/\cs[j]?=YW (.ms k)/\AdU m k (mb.T.t,i,j)/\m[k]?=YW (YW mk)/\mk.T.t=T/\mk.es=es/\dropped ρ m' k
structure Zd8(n0:Nat)(ρ:Nat->Option Nat)(m m':Mem):Prop where
 row:∀l nH,m'[l]?=YW (YW nH)->(∃k mb,ρ l=YW k/\m[k]?=YW (YW mb)/\ZeD ρ m m' mb nH/\OX ρ m m' mb nH)\/(ρ l=YX/\nH.es=[]/\0<nH.k)
 inj:∀l l' k,td m' l=YY->td m' l'=YY->ρ l=YW k->ρ l'=YW k->l=l'
 low:∀l,l<n0->td m' l=YY->ρ l=YW l
 n0:n0<=m'.length
def Cut(n0:Nat)(t:List PV)(m:Mem)(t':List PV)(m':Mem):Prop:=∃ρ:Nat->Option Nat,D8 ρ m m' t t'/\Zd8 n0 ρ m m'
inductive rD(n0:Nat):List PV->Mem->List PV->Mem->Prop
 |one {t m t' m'} (h:Cut n0 t m t' m'):rD n0 t m t' m'
 |two {t m t1 m1 t' m'} (h:Cut n0 t m t1 m1) (h':rD n0 t1 m1 t' m'):rD n0 t m t' m'
def rO(K:List PV->Mem->Prop)(Q:Exit->List PV->Mem->Prop):Exit->List PV->Mem->Prop
 |.normal,t,m=>K t m
 |e,t,m=>Q e t m
def vm(id:Nat)(Q:Exit->List PV->Mem->Prop):Exit->List PV->Mem->Prop
 |.exit i,t,m=>if i=id then Q .normal t m else Q (.exit i) t m
 |e,t,m=>Q e t m
def ZdG(P:Program)(draw:Bool)(ops:Array Oper)(K:List PV->Mem->Prop)(t:List PV)(m:Mem):Prop:=
 match draw with
 |false=>sV P ops K ops.toList t m
 |true=>P.follows .mixedOrders=YY/\∃wd fl,0<wd/\mg P wd m.length fl ops (λg t m=>Lf ops.toList g=YY/\K t m) 0 ops.toList [] t m
def qP(P:Program)(n0:Nat):Code->(Exit->List PV->Mem->Prop)->List PV->Mem->Prop
 |.skip,Q,t,m=>Q .normal t m
 |.seq a b,Q,t,m=>qP P n0 a (rO (λt m=>qP P n0 b Q t m) Q) t m
 |.cond c x y,Q,t,m=>match gH t c with
  |.v (.bool b)=>if b=YY then qP P n0 x Q t m else qP P n0 y Q t m
  |_=>False
 |.block id c,Q,t,m=>qP P n0 c (vm id Q) t m
 |.loop c,Q,t,m=>∃(I:Nat->List PV->Mem->Prop) (n:Nat) (t0:List PV) (m0:Mem),rD n0 t m t0 m0/\I n t0 m0/\∀n t m,I n t m->qP P n0 c (rO (λt m=>∃k t' m',k<n/\rD n0 t m t' m'/\I k t' m') Q) t m
 |.exit i,Q,t,m=>Q (.exit i) t m
 |.ret,Q,t,m=>Q .ret t m
 |.region _ ops draw,Q,t,m=>ZdG P draw ops (Q .normal) t m\/∃t1 m1,rD n0 t m t1 m1/\ZdG P draw ops (Q .normal) t1 m1
 |_,_,_,_=>False
structure Fr where
 w0:World
 O:Nat->Prop
 β0:Nat->Option qt
 n0:Nat
 S0:Nat->Prop
 Q0:Nat->Key->Prop
def rE(F:Fr)(t:List PV)(m:Mem)(a:Act)(w:World):Prop:=
 ∃E,Ok F.w0 F.O E w m/\(∀b,F.S0 b->E.S b)/\SBd F.S0 F.Q0 F.w0 F.O E/\(∀l B,l<F.n0->E.β l=YW B->F.β0 l=YW B)/\(∀l,l<F.n0->E.used l)/\a.defers=[]/\rQ w E t a.tmps
section
variable {w:World} {O:Nat->Prop} {E:Env} {w0:World} {m m':Mem} {P:Program} {ρ:Nat->Option Nat} {n0:Nat} {F:Fr}
def sD(E:Env)(m:Mem)(ρ:Nat->Option Nat)(m':Mem):Env:=
 { S:=λb=>E.S b\/∃k B,E.β k=YW B/\B.z=YZ/\B.b=b/\dropped ρ m' k
   β:=λl=>match m'[l]? with
    |some (YW nH)=>match ρ l with
     |some k=>E.β k
     |none=>YW ⟨0,0,0,nH.k,nH.T.t,YY⟩
    |_=>YX
   used:=λl=>l<m'.length
   ω:=λb q=>E.ω b q\/∃k B,E.β k=YW B/\B.z=YZ/\B.b=b/\dropped ρ m' k/\AdU m k q}
theorem kc{B:qt}(h:(sD E m ρ m').β l=YW B):td m' l=YY/\((∃k,ρ l=YW k/\E.β k=YW B)\/(ρ l=YX/\B.z=YY)):=by
 simp only[sD]at h
 split at h
 ·rename_i nH hm
  refine⟨tU.2 ⟨nH,hm⟩,?_⟩
  grind
 grind
theorem OW{B:qt}(hB:(sD E m ρ m').β l=YW B)(hn:ρ l=YX):B.sv=.slice YX 0 0:=by
 rcases(kc hB).2 with⟨k,h,_⟩ |⟨_,h⟩
 ·grind
 ·simp[qt.sv,h]
theorem Ct(hk:Ok w0 O E w m)(h:oW ρ m m' p r):∀{x:Value},dG w E p x->dG w (sD E m ρ m') r x:=by
 induction h with
 |un p=>intro x hx;exact .un' x
 |c p h=>intro x hx;exact .c ((hx.toC h).all λb hb=>.inl hb)
 |ms l k h hl=>
  intro x hx
  cases hx with
  |c h=>cases h
  |ms _ _ _ h1 h2=>
   refine .ms _ _ hl h1 λB hB=>?_
   rcases(kc hB).2 with⟨k',e,nK⟩ |⟨e,_⟩
   all_goals grind
 |ss l k a b h hl=>
  intro x hx
  cases hx with
  |c h=>cases h
  |ss _ _ _ _ _ h1 h2=>
   refine .ss _ _ _ _ hl h1 λB hB=>?_
   rcases(kc hB).2 with⟨k',e,nK⟩ |⟨e,_⟩
   all_goals grind
 |be l k i o h hl=>
  intro x hx
  cases hx with
  |c h=>cases h
  |be _ _ _ _ _ h1 h2=>
   refine .be _ _ _ _ hl h1 λB hB=>?_
   rcases(kc hB).2 with⟨k',e,nK⟩ |⟨e,_⟩
   all_goals grind
 |Zcf l h hl=>
  intro x hx;obtain⟨rfl,h1⟩:=hx.iz;exact .ms _ _ hl h1 λB hB=>(OW hB h).symm
 |NK c=>
  intro x hx;obtain⟨rfl,_⟩:=hx.iz;exact .c (.nil YX c)
 |fms k mb hm hc hd=>
  intro x hx;obtain⟨B,hB,hb,rfl⟩:=hx.tw hk hm;exact .c (N3 hB hb hc (λb hb=>.inl hb) λhz=>.inr ⟨k,B,hB,hz,rfl,hd⟩)
 |fss k a b mb hm hc hd=>
  intro x hx;obtain⟨B,hB,hb,A,c,rfl,CK,Sf,hA⟩:=hx.An hk hm;exact .c (DD hB hb hc (λb hb=>.inl hb) (λhz=>.inr ⟨k,B,hB,hz,rfl,hd⟩) CK Sf hA)
 |fbe k i o mb cs hm hi hc hd=>
  intro x hx;obtain⟨B,hB,hb,hz,rfl⟩:=hx.Cb hk hm;obtain⟨cells,m1,m2,m3⟩:=hb.mem hz;have hex:∀j:Nat,∃u:Value,∀p,cs[o+j]?=YW p->cells[i*B.k+(o+j)]?=YW u/\u.oneCell'=YY/\eI w (sD E m ρ m').S p u:=by
   intro j
   cases hj:cs[o+j]? with
   |none=>simp
   |some p=>
    obtain⟨u,u1,u2,u3⟩:=m3 i cs (o+j) p hi hj;refine⟨u,λp' h=>?_⟩
    simp at h
    subst h;exact⟨u1,u2,(u3.toC (hc p (VW hj))).all λb hb=>.inl hb⟩
  obtain⟨f,hf⟩:=Xe hex;refine .c (.rp _ B.b (i*B.k+o) f (.inr ⟨k,B,hB,hz,rfl,hd⟩) (λj p hj=>?_) (λj p hj=>?_) λj p hj=>?_)
  ·rw[cell_of_row w B.b _ cells B.T (0,0) m1,XM];simp_all
  all_goals grind
 |fn f cs ds hl h ih=>
  intro x hx;obtain⟨vs,rfl,hvl,hr⟩:=hx.F6;refine .fn f ds vs Yn λj r x Pm uq=>?_
  grind
theorem tI:∀{ps rs:List PV},rG ρ m m' ps rs->rs.length=ps.length/\∀(j:Nat) (r:PV),rs[j]?=YW r->∃p,ps[j]?=YW p/\oW ρ m m' p r
 | [],[],_=>⟨rfl,by simp⟩
 | [],_::_,h=>h.elim
 |_::_,[],h=>h.elim
 |p::ps,r::rs,h=>by
  obtain⟨h1,h2⟩:=tI h.2;refine⟨by grind,λj q hq=>?_⟩
  cases j with
  |zero=>obtain rfl:r=q:=by grind
         exact⟨p,rfl,h.1⟩
  |succ j=>grind
theorem Ii(hk:Ok w0 O E w m)(h:FK ρ m m' p r){x:Value}(hx:dG w E p x):dG w (sD E m ρ m') r x:=by
 cases h with
 |c h=>exact Ct hk h hx
 |ag cs ds h=>
  obtain⟨vs,rfl,hl,h1,hr⟩:=hx.qx;obtain⟨e1,e2⟩:=tI h;refine .ag _ vs Yn h1 λj r x Pm uq=>?_
  obtain⟨p,hp,hc⟩:=e2 j r Pm;exact Ct hk hc (hr j p x hp uq)
theorem EC:∀{ps rs:List PV},Cs ρ m m' ps rs->rs.length=ps.length/\∀(j:Nat) (r:PV),rs[j]?=YW r->∃p,ps[j]?=YW p/\FK ρ m m' p r
 | [],[],_=>⟨rfl,by simp⟩
 | [],_::_,h=>h.elim
 |_::_,[],h=>h.elim
 |p::ps,r::rs,h=>by
  obtain⟨h1,h2⟩:=EC h.2;refine⟨by grind,λj q hq=>?_⟩
  cases j with
  |zero=>obtain rfl:r=q:=by grind
         exact⟨p,rfl,h.1⟩
  |succ j=>grind
theorem RW(hk:Ok w0 O E w m)(h:D6 ρ m m' p r){x:Value}(hx:dG w E p x):dG w (sD E m ρ m') r x:=by
 cases h with
 |a h=>exact Ii hk h hx
 |tu cs ds h=>
  obtain⟨vs,rfl,hl,hr⟩:=hx.xI;obtain⟨e1,e2⟩:=EC h;refine .tu _ vs Yn λj r x Pm uq=>?_
  obtain⟨p,hp,hc⟩:=e2 j r Pm;exact Ii hk hc (hr j p x hp uq)
theorem Io:∀{ps rs:List PV},D8 ρ m m' ps rs->rs.length=ps.length/\∀(j:Nat) (r:PV),rs[j]?=YW r->∃p,ps[j]?=YW p/\D6 ρ m m' p r
 | [],[],_=>⟨rfl,by simp⟩
 | [],_::_,h=>h.elim
 |_::_,[],h=>h.elim
 |p::ps,r::rs,h=>by
  obtain⟨h1,h2⟩:=Io h.2;refine⟨by grind,λj q hq=>?_⟩
  cases j with
  |zero=>obtain rfl:r=q:=by grind
         exact⟨p,rfl,h.1⟩
  |succ j=>grind
theorem sC:∀{ps rs:List (List PV)},yb ρ m m' ps rs->rs.length=ps.length/\∀(j:Nat) (r:List PV),rs[j]?=YW r->∃p,ps[j]?=YW p/\rG ρ m m' p r
 | [],[],_=>⟨rfl,by simp⟩
 | [],_::_,h=>h.elim
 |_::_,[],h=>h.elim
 |p::ps,r::rs,h=>by
  obtain⟨h1,h2⟩:=sC h.2;refine⟨by grind,λj q hq=>?_⟩
  cases j with
  |zero=>obtain rfl:r=q:=by grind
         exact⟨p,rfl,h.1⟩
  |succ j=>grind
theorem Ok.cut(hk:Ok w0 O E w m)(h:Zd8 n0 ρ m m'):Ok w0 O (sD E m ρ m') w m':=by
 refine⟨hk.up,?_,λl B hB hz=>?_,λl l' B B' hB nK hz u4 e=>?_,λl hl=>hl,λl B hB=>?_,λl nH Ec=>?_,λl B hB=>tU.1 (kc hB).1,hk.KX,λb q hq=>?_⟩
 ·rintro b (hb|⟨k,B,hB,hz,rfl,_⟩)
  ·exact hk.sz b hb
  ·exact(hk.own k B hB hz).2.1
 ·obtain⟨hl,⟨k,e,nK⟩ |⟨_,u4⟩⟩:=kc hB
  ·obtain⟨a,b,c⟩:=hk.own k B nK hz
   refine⟨a,b,?_⟩;rintro(hS|⟨k2,B2,hB2,ER,e2,wU⟩)
   ·grind
   ·have:=hk.inj k k2 B B2 nK hB2 hz ER e2.symm
    subst this;exact wU l hl e
  grind
 ·obtain⟨hl,⟨k,e1,h1⟩ |⟨_,h1⟩⟩:=kc hB
  ·obtain⟨Nv,⟨k',e2,h2⟩ |⟨_,h2⟩⟩:=kc nK
   ·have:=hk.inj k k' B B' h1 h2 hz u4 e
    subst this;exact h.inj l l' k hl Nv e1 e2
   grind
  grind
 ·have:=(kc hB).1
  obtain⟨mb,hm⟩:=tU.1 this;exact(VU.1 hm).1
 ·rcases h.row l nH Ec with⟨k,mb,hρ,hm,⟨hT,Ph,xh⟩,Zhg⟩ |⟨hρ,h0,ib⟩
  ·obtain⟨B,hB,hb⟩:=hk.mem k mb hm
   refine⟨B,by simp only[sD];grind,by rw[hb.k,Ph],?_,by rw[hb.T,hT],hb.pos,hb.nc,hb.cm,?_,λhz=>?_,λhz=>?_,λT1 hT1 hz i ds j es x hi hj gZ hcx=>?_⟩
   ·rcases xh with⟨e,_⟩ |he
    ·rw[hb.n,e]
    ·rw[hb.n,(sC he).1]
   ·intro i ds hi
    rcases xh with⟨e,_⟩ |he
    ·rw[e]at hi;exact hb.es i ds hi
    ·obtain⟨cs,so,hc⟩:=(sC he).2 i ds hi
     rw[(tI hc).1];exact hb.es i cs so
   ·have h0:=hb.nil hz
    rcases xh with⟨e,_⟩ |he
    ·grind
    ·have:=(sC he).1
     grind
   ·obtain⟨cells,m1,m2,m3⟩:=hb.mem hz
    refine⟨cells,m1,m2,λi ds j r hi hj=>?_⟩
    rcases xh with⟨e,uo⟩ |he
    ·rw[e]at hi
     obtain⟨x,x1,x2,x3⟩:=m3 i ds j r hi hj;exact⟨x,x1,x2,.c ((x3.toC (uo ds (VW hi) r (VW hj))).all λb hb=>.inl hb)⟩
    ·obtain⟨cs,so,hc⟩:=(sC he).2 i ds hi
     obtain⟨p,hp,hc'⟩:=(tI hc).2 j r hj;obtain⟨x,x1,x2,x3⟩:=m3 i cs j p so hp;exact⟨x,x1,x2,Ct hk hc' x3⟩
   ·rw[hT]
    rcases Zhg T1 hT1 i ds j es hi hj gZ with⟨g1,cs,g2,g3⟩ |⟨cs,kk,mk,g1,g2,g3,g4,g5,g6,g7⟩
    ·obtain⟨b,c,k',qy,a1,a2,a3⟩:=hb.key T1 g1 hz i cs j es x g2 g3 gZ hcx
     exact⟨b,c,k',qy,a1,.inl a2,a3⟩
    ·obtain⟨Bk,hBk,xK⟩:=hk.mem kk mk g4
     obtain⟨cells,m1,m2,m3⟩:=hb.mem hz;obtain⟨y,y1,y2,y3⟩:=m3 i cs j _ g1 g2;rw[cell_of_row w B.b _ cells B.T (0,0) m1]at hcx
     obtain rfl:y=x:=by grind
     obtain⟨B1,xe,_,rfl⟩:=y3.tw hk g4;obtain rfl:Bk=B1:=by grind
     have KT:Bk.z=false:=xK.Zb0 Yr;obtain⟨Zcy,n1,n2,n3⟩:=xK.mem KT;refine⟨Bk.b,Bk.c,Bk.k,Zcy,by rw[show Bk.sv=.slice (YW ⟨Bk.b,0,YX⟩) Bk.n Bk.c by simp[qt.sv,KT],xK.n,g6],.inr ⟨kk,Bk,hBk,KT,rfl,g7,g3⟩,by rw[<-g5,<-xK.T];omega,n2,xK.pos,by rw[<-g6,<-xK.n];exact xK.nc,xK.cm,λe he=>?_⟩
     rw[<-g6]at he
     obtain⟨i1,hi1⟩:=List.getElem?_of_mem he;exact xK.es i1 e hi1
  ·refine⟨⟨0,0,0,nH.k,nH.T.t,YY⟩,by simp only[sD];grind,rfl,by grind,rfl,ib,Nat.le_refl _,Ww _,by grind,λ_=>h0,λh=>YA,λ_ _ h=>by cases h⟩
 ·rcases hq with hq|⟨k,B,hB,hz,rfl,hd,ha⟩
  ·refine⟨.inl (hk.ow b q hq).1,λq' hq'=>?_⟩
   rcases hq' with h'|⟨k,B,hB,hz,rfl,_⟩
   ·exact(hk.ow b q hq).2 q' h'
   ·exact absurd (hk.ow _ q hq).1 (hk.own k B hB hz).2.2
  ·refine⟨.inr ⟨k,B,hB,hz,rfl,hd⟩,λq' hq'=>?_⟩
   rcases hq' with h'|⟨k2,B2,hB2,ER,e2,_,ha2⟩
   ·exact absurd (hk.ow _ q' h').1 (hk.own k B hB hz).2.2
   ·have:=hk.inj k2 k B2 B hB2 hB ER hz e2
    subst this;exact ha.2 q' ha2.1
theorem rE.cut{t t':List PV}{a:Act}(h:rE F t m a w)(hc:Cut F.n0 t m t' m'):rE F t' m' a w:=by
 obtain⟨E,hk,CR,CS,Pe,hu0,hd,ht⟩:=h;obtain⟨ρ,h1,h2⟩:=hc;obtain⟨e1,e2⟩:=Io h1;refine⟨sD E m ρ m',hk.cut h2,λb hb=>.inl (CR b hb),⟨λb hb=>?_,λb q hb=>?_⟩,λl B hl hB=>?_,λl hl=>Nat.lt_of_lt_of_le hl h2.n0,hd,by rw[ht.1,e1],λi r hr=>?_⟩
 ·rcases hb with hb|⟨k,B,hB,hz,rfl,_⟩
  ·exact CS.1 b hb
  ·rcases(hk.own k B hB hz).1 with h|h
   all_goals grind
 ·rcases hb with hb|⟨k,B,hB,hz,rfl,_⟩
  ·exact CS.2 b q hb
  ·rcases(hk.own k B hB hz).1 with h|h
   all_goals grind
 ·obtain⟨sR,⟨k,e,nK⟩ |⟨e,_⟩⟩:=kc hB
  ·rw[h2.low l hl sR]at e
   grind
  ·rw[h2.low l hl sR]at e;cases e
 ·obtain⟨p,hp,zJ⟩:=e2 i r hr
  exact RW hk zJ (ht.2 i p hp)
theorem rE.Vy{t t':List PV}{a:Act}{n0:Nat}(hc:rD n0 t m t' m')(hn:F.n0=n0)(h:rE F t m a w):rE F t' m' a w:=by
 subst hn
 induction hc with
 |one hc=>exact h.cut hc
 |two hc _ ih=>exact ih (h.cut hc)
theorem QM{c:Code}{Q:Exit->Act->World->Prop}(I:Nat->Act->World->Prop)(round:∀n a w,I n a w->c.wp P (Exit.then (λa' w'=>∃k,k<n/\I k a' w') Q) a w){a:Act}{w:World}(h0:I n a w):(Code.loop c).wp P Q a w:=by
 intro b k cs;have key:∀n a w,I n a w->∃e a' w',Q e a' w'/\Arrives P (lone (b.at a (.code c::.inLoop c::k)) cs w) b k cs e a' w':=by
  intro n
  induction n using Nat.strongRecOn with
  |_ n ih=>
   intro a w hI;obtain⟨e,OB,QN,hq,IT⟩:=round n a w hI b (.inLoop c::k) cs
   cases e with
   |normal=>
    obtain⟨j,bX,ZeU⟩:=hq;obtain⟨ZgX,ZgB,Zh6,Zfp,VP⟩:=ih j bX OB QN ZeU;exact⟨ZgX,ZgB,Zh6,Zfp,.of_steps (Steps.trans IT (.one step_inLoop)) VP⟩
   |exit id=>exact⟨_,OB,QN,hq,.pass (x:=.inLoop c) rfl (λ_ _=>.inl Yq) IT⟩
   |goto l=>exact⟨_,OB,QN,hq,.pass (x:=.inLoop c) rfl (λ_ _=>.inl Yq) IT⟩
   |ret=>exact⟨_,OB,QN,hq,.pass (x:=.inLoop c) rfl (λ_ _=>.inl Yq) IT⟩
   |panic ch=>exact⟨_,OB,QN,hq,.pass (x:=.inLoop c) rfl (λ_ _=>.inl Yq) IT⟩
   |outgrown=>exact⟨_,OB,QN,hq,.pass (x:=.inLoop c) rfl (λ_ _=>.inl Yq) IT⟩
 obtain⟨e,a',w',hq,IT⟩:=key n a w h0;exact⟨e,a',w',hq,.of_steps (.one step_loop) IT⟩
def S8(F:Fr)(Q:Exit->List PV->Mem->Prop):Exit->Act->World->Prop:=λe a w=>∃t m,Q e t m/\rE F t m a w
theorem Fm{ops:Array Oper}{draw:Bool}{Q:Exit->List PV->Mem->Prop}{t:List PV}{m:Mem}{a:Act}{w:World}(h:ZdG P draw ops (Q .normal) t m)(hr:rE F t m a w):(Code.region id ops draw).wp P (S8 F Q) a w:=by
 obtain⟨E,hk,CR,CS,Pe,hu0,hd,ht⟩:=hr
 cases draw with
 |false=>
  refine wp_region_list (xy ops.toList t m E w a hk hd ht h ?_);intro t m E' w' a' hK h1 hx h2 h3;exact⟨t,m,hK,E',h1,λb hb=>hx.S b (CR b hb),Uh hk CS hx,λl B hl hB=>Pe l B hl (hx.β l B (hu0 l hl) hB),λl hl=>hx.used l (hu0 l hl),h2,h3⟩
 |true=>
  obtain⟨hf,wd,fl,I7,hp⟩:=h;obtain⟨as_,gs,h1,h2,⟨Zg6,hK⟩,u0⟩:=Ff ops.toList 0 [] t m hp;have Ee:ZbT P wd ops.toList as_ gs t m:=⟨h1,h2,Zg6,λk o hko=>by
   simp_all⟩
  have hu:Ok F.w0 F.O E { w with drawn:=w.drawn+1} m/\Ext w { w with drawn:=w.drawn+1} E E:=hk.drew 1
  refine wp_region_any hf ?_;have hre:∀(j:Nat),(W3 ops.size YZ).getD j YZ=false:=λj=>by
   rw[Wz]
   grind
  have Ze9:(λj=>(W3 ops.size YZ).getD j YZ)=λ_=>false:=funext hre
  have key:=Iv (w0:=F.w0) (O:=F.O) (S0:=F.S0) (Q0:=F.Q0) I7 Ee (J:=λE=>(∀l B,l<F.n0->E.β l=YW B->F.β0 l=YW B)/\∀l,l<F.n0->E.used l)
   (λw w' E E' hx hJ=>⟨λl B hl hB=>hJ.1 l B hl (hx.β l B (hJ.2 l hl) hB),λl hl=>hx.used l (hJ.2 l hl)⟩) (K:=Q .normal) (Q:=S8 F Q) hK
   (λt m a w E hK hk h1 h2 hd ht hJ=>⟨t,m,hK,E,hk,h1,h2,hJ.1,hJ.2,hd,ht⟩) ops.size (W3 ops.size YZ) a _ E Yq (by
    unfold unl
    grind) (by
    intro j o hj hL
    simp_all) (by rw[Ze9,DO _ _ _ (λ_=>rfl)];exact hu.1) CR CS hd (by rw[Ze9,DQ _ _ _ (λ_=>rfl)];exact ht.ext hu.2)
    (λl hl=>.inl (hk.used l hl)) ⟨Pe,hu0⟩
  omega
theorem rk:∀(c:Code) (Q:Exit->List PV->Mem->Prop) (t:List PV) (m:Mem) (a:Act) (w:World),qP P F.n0 c Q t m->rE F t m a w->c.wp P (S8 F Q) a w
 |.skip,Q,t,m,a,w,h,hr=>wp_skip ⟨t,m,h,hr⟩
 |.seq x y,Q,t,m,a,w,h,hr=>by
  refine wp_seq (Code.wp_mono ?_ (rk x _ t m a w h hr));rintro e a w ⟨t,m,hq,hr⟩
  cases e with
  |normal=>exact rk y Q t m a w hq hr
  |_=>exact⟨t,m,hq,hr⟩
 |.cond c x y,Q,t,m,a,w,h,hr=>by
  simp only[qP]at h
  split at h
  ·rename_i b hb
   have Pm:=hr;obtain⟨E,hk,_,_,_,_,hd,ht⟩:=Pm;have hv:=yf ht c;rw[hb]at hv
   have hv:=hv.iz.1
   cases b with
   |true=>exact wp_cond_true hv (rk x Q t m a w Yr hr)
   |false=>exact wp_cond_false hv (rk y Q t m a w Yr hr)
  grind
 |.block id c,Q,t,m,a,w,h,hr=>by
  refine wp_block (Code.wp_mono ?_ (rk c _ t m a w h hr));rintro e a w ⟨t,m,hq,hr⟩
  cases e with
  |exit i=>
   simp only[Exit.inBlock];simp only[vm]at hq
   split
   ·rename_i hi;rw[if_pos hi]at hq;exact⟨t,m,hq,hr⟩
   ·rename_i hi;rw[if_neg hi]at hq;exact⟨t,m,hq,hr⟩
  |_=>exact⟨t,m,hq,hr⟩
 |.loop c,Q,t,m,a,w,h,hr=>by
  obtain⟨I,n,t0,m0,hcut,hI,SG⟩:=h;refine QM (λn a w=>∃t m,I n t m/\rE F t m a w) ?_ ⟨t0,m0,hI,rE.Vy hcut rfl hr⟩
  rintro n a w ⟨t,m,hI,hr⟩;refine Code.wp_mono ?_ (rk c _ t m a w (SG n t m hI) hr);rintro e a w ⟨t,m,hq,hr⟩
  cases e with
  |normal=>
   obtain⟨k,t',m',bX,hcut,hI⟩:=hq;exact⟨k,bX,t',m',hI,rE.Vy hcut rfl hr⟩
  |_=>exact⟨t,m,hq,hr⟩
 |.exit i,Q,t,m,a,w,h,hr=>wp_exit ⟨t,m,h,hr⟩
 |.ret,Q,t,m,a,w,h,hr=>wp_ret ⟨t,m,h,hr⟩
 |.region id ops draw,Q,t,m,a,w,h,hr=>by
  rcases h with h|⟨t1,m1,hc,h⟩
  ·exact Fm h hr
  ·exact Fm h (rE.Vy hc rfl hr)
 |.scope _,_,_,_,_,_,h,_=>h.elim
 |.label _,_,_,_,_,_,h,_=>h.elim
 |.goto _,_,_,_,_,_,h,_=>h.elim
 |.rangeFunc ..,_,_,_,_,_,h,_=>h.elim
 |.refuse _,_,_,_,_,_,h,_=>h.elim
def Qr(P:Program):List ResultVar->List PV->Mem->(List PV->Prop)->Prop
 | [],_,_,K=>K []
 |.tmp i::rest,t,m,K=>Qr P rest t m λps=>K (t.getD i .un::ps)
 |.cell i T::rest,t,m,K=>rX P T (KW m (t.getD i .un)) λp=>Qr P rest t m λps=>K (p::ps)
def ZaO:List PV->PV
 | [p]=>p
 |ps=>.tu ps
def Zdw:List Value->Value
 | [v]=>v
 |vs=>.tuple vs.toArray
theorem xB(hk:Ok w0 O E w m){t:List PV}{a:Act}(ht:rQ w E t a.tmps):∀(rs:List ResultVar) (K:List PV->Prop),Qr P rs t m K->
 ∃ps vs,K ps/\(rs.mapM fun(r:ResultVar)=>(match r with
  |.tmp t=>pure (a.tmps.getD t Y3)
  |.cell b T=>do loadVar T (<-asAddr (a.tmps.getD b Y3)):Sem Value)).run P w=.ok vs w/\vs.length=ps.length/\ps.length=rs.length/\∀(j:Nat) (p:PV) (x:Value),ps[j]?=YW p->vs[j]?=YW x->dG w E p x
 | [],K,h=>⟨[],[],h,by simp,rfl,rfl,by simp⟩
 |.tmp i::rest,K,h=>by
  obtain⟨ps,vs,hK,kv,hl,QV,hr⟩:=xB hk ht rest _ h;refine⟨_,a.tmps.getD i Y3::vs,hK,?_,by grind,by grind,λj p x hp hx=>?_⟩
  ·simp_all
  ·cases j with
   |zero=>
    simp only[List.getElem?_cons_zero,V6]at hp hx
    subst hp hx;exact yf ht (.tmp i)
   |succ j=>grind
 |.cell i T::rest,K,h=>by
  simp only[Qr]at h
  cases hp:KW m (t.getD i .un)with
  |none=>unfold rX at h;grind
  |some cs=>
   rw[hp]at h
   obtain⟨b,off,hx,hb,hc⟩:=N1 hk (yf ht (.tmp i)) hp;obtain⟨p,v,hK,Zft,tv⟩:=E8 h hb hc;obtain⟨ps,vs,hK,kv,hl,QV,hr⟩:=xB hk ht rest _ hK;simp only[Act.eval]at hx
   refine⟨_,v::vs,hK,?_,by grind,by grind,λj p x hp hx=>?_⟩
   ·have Zg4:(asAddr (a.tmps.getD i Y3)).run P w=.ok ⟨b,off,YX⟩ w:=by rw[hx];rfl
    simp only[List.mapM_cons,Sem.run_bind,Zg4,Result.andThen_ok,Zft w (Up.rfl' w)]
    simp_all
   grind
def Fin(P:Program)(n0:Nat)(rs:Array ResultVar)(r:PV)(m1:Mem)(t:List PV)(m:Mem):Prop:=Qr P rs.toList t m λps=>rD n0 [ZaO ps] m [r] m1
theorem Ow{t:List PV}{a:Act}(hr:rE F t m a w)(h:Fin P F.n0 fn.results r m1 t m):
 ∃v E',(results fn a.tmps).run P w=.ok v w/\Ok F.w0 F.O E' w m1/\(∀b,F.S0 b->E'.S b)/\SBd F.S0 F.Q0 F.w0 F.O E'/\(∀l B,l<F.n0->E'.β l=YW B->F.β0 l=YW B)/\dG w E' r v:=by
 obtain⟨E,hk,CR,CS,Pe,hu0,hd,ht⟩:=hr;obtain⟨ps,vs,hcut,kv,hl,QV,hr⟩:=xB hk ht _ _ h;have Ed:(results fn a.tmps).run P w=.ok (Zdw vs) w:=by
  unfold results;rw[Array.mapM_eq_mapM_toList,Sem.run_bind,Sem.run_map];refine(congrArg (λr=>(Result.andThen r fun(a:List Value) w'=>Result.ok a.toArray w').andThen _) kv).trans ?_
  match vs with
  | []=>rfl
  | [v]=>rfl
  |_::_::_=>rfl
 have hv0:dG w E (ZaO ps) (Zdw vs):=by
  match vs,ps,hl with
  | [v],[p],_=>exact hr 0 p v rfl rfl
  | [],[],_=>exact .tu _ _ Yq Yq
  |v::v'::vs,p::p'::ps,hl=>exact .tu _ _ Yn λj q x hq hx=>hr j q x hq Yr
 generalize Zdw vs=v0 at Ed hv0
 have h0:rE F [ZaO ps] m { tmps:=#[v0],defers:=[]} w:=by
  refine⟨E,hk,CR,CS,Pe,hu0,rfl,rfl,λi p hp=>?_⟩
  cases i with
  |zero=>
   simp_all
  |succ i=>grind
 obtain⟨E',k1,k2,k3,k4,_,_,k5⟩:=rE.Vy hcut rfl h0;exact⟨_,E',Ed,k1,k2,k3,k4,k5.2 0 r rfl⟩
theorem js{f:FuncId}{c:Code}(hf:P.funcs[f]?=YW fn)(hb:fn.body=YW c)(hn:fn.ntmps=n){rs:Array ResultVar}(hrs:fn.results=rs){args:List PV}{m0:Mem}
 (h:∀Q:Exit->List PV->Mem->Prop,(∀t m,Fin P m0.length rs r m1 t m->Q .ret t m)->(∀t m,Fin P m0.length rs r m1 t m->Q .normal t m)->qP P m0.length c Q (args++V8 (n-args.length) .ud) m0):fa P f args m0 r m1:=by
 subst hn hrs;intro S β w vs ω hk hl hargs
 let F:Fr:=⟨w,nC β,β,m0.length,S,ω⟩
 have hr0:rE F (args++V8 (fn.ntmps-args.length) .ud) m0 { tmps:=vs++W3 (fn.ntmps-vs.size) Y3,defers:=[]} w:=by
  refine⟨E1 S β m0.length ω,hk,λb hb=>hb,⟨λb hb=>.inl hb,λb q hb=>.inl hb⟩,λl B hl hB=>hB,λl hl=>hl,rfl,by grind,λi p hp=>?_⟩
  rcases Wv i args.length with hi|hi
  ·rw[Wu hi]at hp
   obtain⟨x,hx,hr⟩:=hargs i p hp;have hiv:i<vs.size:=Yn;have e:(vs++W3 (fn.ntmps-vs.size) Y3).getD i Y3=x:=by
    rw[Wz,Array.getElem?_append_left hiv,hx];rfl
   grind
  ·rw[List.getElem?_append_right hi]at hp
   have bX:=(VU.1 hp).1;rw[List.length_replicate]at bX
   rw[List.getElem?_replicate,if_pos bX]at hp
   cases hp
   have e:(vs++W3 (fn.ntmps-vs.size) Y3).getD i Y3=Y3:=by
    rw[Wz,Array.getElem?_append_right Yn]
    grind
   rw[e];exact .c .ud
 refine calls_of_wp hf hb (Code.wp_mono ?_ (rk (F:=F) c (λe t m=>(e=.ret\/e=.normal)/\Fin P m0.length fn.results r m1 t m) _ _ _ w (h _ (λt m h=>⟨.inl rfl,h⟩) (λt m h=>⟨.inr rfl,h⟩)) hr0))
 rintro e a w' ⟨t,m,⟨he,r9⟩,hr⟩;have hd:a.defers=[]:=by obtain⟨_,_,_,_,_,_,hd,_⟩:=hr;omega
 obtain⟨v,E',kv,k1,k2,k3,k4,k5⟩:=Ow hr r9;have key:bodyPost P fn (λe w'=>∃v E',e=.returned v/\Ok w (nC β) E' w' m1/\(∀b,S b->E'.S b)/\(∀b,E'.S b->S b\/w.heap.size<=b\/nC β b)/\((∀l B,l<m0.length->E'.β l=YW B->β l=YW B)/\∀b q,E'.ω b q->ω b q\/w.heap.size<=b\/nC β b)/\dG w' E' r v) .ret a w':=
  ⟨hd,v,kv,v,E',rfl,k1,k2,k3.1,⟨k4,k3.2⟩,k5⟩
 rcases he with rfl|rfl
 ·omega
 ·exact key
end
theorem ek{α:Sort _}{a b:α}(h:a=b):a=b:=h
abbrev vi(n:Int):PV:=.v (Y1 Y2 n)
abbrev v8(n:Int):PV:=.v (.int .u8 n)
abbrev vb(b:Bool):PV:=.v (.bool b)
abbrev vs(s:ByteArray):PV:=.v (.string s)
abbrev aM(n:Int):Int:=IntKind.i64.wrap n
/-! ### The other side: MT the code ZhY,as_ a function;an answer is YX where Go Zit panic. -/
def cr(b:Bool):Option Unit:=cond b (YW ()) YX
def aB{α:Type}(xs:List α)(i:Int):Option α:=if 0<=i then xs[i.toNat]? else YX
def uC(s:ByteArray)(i:Int):Option Int:=if 0<=i/\i<s.size then YW (zu s i.toNat)else YX
def bn(n bytes:Nat):Bool:=Y0 (n<=1099511627776/\n*bytes<=140737488355328)
def fJ(l h n:Int):Bool:=Y0 (0<=l/\l<=h/\h<=n)
def cM{α:Type}(xs:List α)(l h:Int):List α:=(xs.drop l.toNat).take (h.toNat-l.toNat)
def He(s:ByteArray)(l h:Int):ByteArray:=s.extract l.toNat h.toNat
abbrev bh{σ ο δ:Type}(f:σ->δ)(g:ο->δ):σ⊕ο->δ
 |.inl a=>f a
 |.inr b=>g b
def aE{σ ο:Type}(body:σ->Option (σ⊕ο)):Nat->σ->Option ο
 |0,_=>YX
 |n+1,s=>(body s).bind (bh (aE body n) YW)
def NN:Nat:=1152921504606846976
section
variable {α β γ δ σ ο:Type}
theorem H0{x:Option α}{r:α}(h:x=YW r):x.bind YW=YW r:=by simp_all
theorem Hc1{b:Bool}{A B:Option α}{K:α->Option β}{r:β}(h:(cond b A B).bind K=YW r)(hb:b=YY):A.bind K=YW r:=by simp_all
theorem Hc2{b:Bool}{A B:Option α}{K:α->Option β}{r:β}(h:(cond b A B).bind K=YW r)(hb:b=YZ):B.bind K=YW r:=by simp_all
theorem BP{x:Option α}{F:α->Option β}{K:β->Option γ}{r:γ}(h:(x.bind F).bind K=YW r):∃a,x=YW a/\(F a).bind K=YW r:=by
 cases x with
 |none=>cases h
 |some a=>simp_all
theorem UR{b:Bool}{F:Unit->Option β}{K:β->Option γ}{r:γ}(h:((cr b).bind F).bind K=YW r):b=YY/\(F ()).bind K=YW r:=by
 cases b with
 |false=>cases h
 |true=>exact⟨rfl,h⟩
theorem Hlp{x:Option ο}{G:ο->Option β}{K:β->Option γ}{r:γ}(h:(x.bind G).bind K=YW r):x.bind (λo=>(G o).bind K)=YW r:=by
 grind
theorem Hrd{body:σ->Option (σ⊕ο)}{s:σ}{K:ο->Option β}{r:β}(h:(aE body (n+1) s).bind K=YW r):(body s).bind (bh (λs'=>(aE body n s').bind K) K)=YW r:=by
 unfold aE at h
 grind
theorem Hno{body:σ->Option (σ⊕ο)}{s:σ}{K:ο->Option β}{r:β}(h:(aE body 0 s).bind K=YW r):False:=by cases h
theorem Zgx{a r:α}(h:YW a=YW r):a=r:=VX h
end
class CT(P:Program){R:Type}(x:Option R) where
 f:FuncId
 args:List PV
 m0:Mem
 res:R->PV
 mem:R->Mem
 ok:∀{r:R},x=YW r->fa P f args m0 (res r) (mem r)
class bp{σ ο:Type}(body:σ->Option (σ⊕ο)) where
 T:σ->List PV
 M:σ->Mem
class dI{α:Type}(f:α->List PV):Prop where
 h:∀x,∀q∈f x,sq q=YY
class qQ{α:Type}(f:α->List PV):Prop where
 h:∀x,∀q∈f x,Jg q=YY
/-! ### The Zh4 Qs. -/
def U:Nat->List PV->List PV
 |0,l=>l
 |n+1,l=>.un::U n l
theorem U_z(l:List PV):U 0 l=l:=ek rfl
theorem U_s(n:Nat)(l:List PV):U (n+1) l=.un::U n l:=ek rfl
theorem Zf0(a b:PV)(as_:List PV):(a::as_).set 0 b=b::as_:=ek rfl
theorem ZfZ(a b:PV)(as_:List PV)(n:Nat):(a::as_).set (n+1) b=a::as_.set n b:=ek rfl
theorem Sc(a d:PV)(as_:List PV):(a::as_).getD 0 d=a:=ek rfl
theorem Sb(a d:PV)(as_:List PV)(n:Nat):(a::as_).getD (n+1) d=as_.getD n d:=ek rfl
theorem ZfR{α:Type}(a:α)(as_:List α):(a::as_)[0]?=YW a:=ek rfl
theorem ZfQ{α:Type}(a:α)(as_:List α)(n:Nat):(a::as_)[n+1]?=as_[n]?:=ek rfl
theorem ZfP{α:Type}(as_:List α)(n:Nat):as_.toArray[n]?=as_[n]?:=ek Yq
section
variable {P:Program} {ops:Array Oper} {K:List PV->Mem->Prop} {KD:List LE->List PV->Mem->Prop} {rest:List Oper} {t:List PV} {m:Mem} {d:Option Tmp} {o:Op} {ty:TypeId} {pos:String} {af:Array Edge} {j:Nat} {b:Bool} {KA:PV->Mem->Prop} {KR:PV->Prop} {io:Bool} {wd ν base i:Nat} {g:List LE} {fl:List Nat}
def nxt(P:Program)(ops:Array Oper)(K:List PV->Mem->Prop)(rest:List Oper)(t:List PV)(d:Option Tmp)(p:PV)(m:Mem):Prop:=sV P ops K rest (jq t d p) m
def HY(K:PV->Mem->Prop)(m:Mem)(p:PV):Prop:=K p m
def rgo(P:Program)(ops:Array Oper)(K:List PV->Mem->Prop)(rest:List Oper)(d:Option Tmp)(o:Op)(m:Mem)(t:List PV):Prop:=jj P YY 16 m.length o t m (nxt P ops K rest t d)
def pgo(P:Program)(ops:Array Oper)(K:List PV->Mem->Prop)(rest:List Oper)(d:Option Tmp)(m:Mem)(t:List PV):Prop:=sV P ops K rest (jq t d .ud) m
def tN(c:Bool)(y n:List PV->Prop)(t:List PV)(i:Nat):Prop:=gate c (y (t.set i (.v (.bool YY)))) (n (t.set i (.v (.bool YZ))))
def gdV(p:PV)(i:Nat)(t:List PV)(b:Bool)(run pass:List PV->Prop):Prop:=
 match p,b with
 |.v (.bool c),YY=>tN c run pass t i
 |.v (.bool c),YZ=>tN c pass run t i
 |.ud,_=>pass t
 |_,_=>False
def gd(d:Option Tmp)(t:List PV)(b:Bool)(run pass:List PV->Prop):Prop:=
 match d with
 |none=>pass t
 |some d=>gdV (t.getD d .un) d t b run pass
theorem NP:nxt P ops K rest t d p m=sV P ops K rest (jq t d p) m:=ek rfl
theorem M6:HY KA m p=KA p m:=ek rfl
theorem Zbg:rgo P ops K rest d o m t=jj P YY 16 m.length o t m (nxt P ops K rest t d):=ek rfl
theorem Za3:pgo P ops K rest d m t=sV P ops K rest (jq t d .ud) m:=ek rfl
theorem Sa{y n:List PV->Prop}{i:Nat}:tN YY y n t i=y (t.set i (.v (.bool YY))):=by simp[tN,gate]
theorem R9{y n:List PV->Prop}{i:Nat}:tN YZ y n t i=n (t.set i (.v (.bool YZ))):=by simp[tN,gate]
theorem IG{c:Bool}{y n:List PV->Prop}{i:Nat}(h1:c=YY->y (t.set i (.v (.bool YY))))(h2:c=YZ->n (t.set i (.v (.bool YZ)))):tN c y n t i:=⟨h1,h2⟩
theorem TJ:sV P ops K [] t m=K t m:=ek rfl
theorem Za5:sV P ops K (⟨d,o,ty,pos,af,YX⟩::rest) t m=jj P YY 16 m.length o t m (nxt P ops K rest t d):=ek rfl
theorem Za4:sV P ops K (⟨d,o,ty,pos,af,YW (j,b)⟩::rest) t m=gd ((ops[j]?).bind (·.dst)) t b (rgo P ops K rest d o m) (pgo P ops K rest d m):=by
 rfl
/-! Zh7 the order is drawn. -/
def nxd(P:Program)(wd base:Nat)(fl:List Nat)(ops:Array Oper)(K:List LE->List PV->Mem->Prop)(i:Nat)(rest:List Oper)(g:List LE)(t:List PV)(d:Option Tmp)(p:PV)(m:Mem):Prop:=mg P wd base fl ops K i rest g (jq t d p) m
def rgd(P:Program)(wd base:Nat)(fl:List Nat)(ops:Array Oper)(K:List LE->List PV->Mem->Prop)(i:Nat)(rest:List Oper)(g:List LE)(oo:Oper)(m:Mem)(t:List PV):Prop:=
 jj P YZ wd (base+wd*i) oo.op t m (nxd P wd base fl ops K (i+1) rest (g++[LQ ops oo t wd (base+wd*i)]) t oo.dst)
def pgd(P:Program)(wd base:Nat)(fl:List Nat)(ops:Array Oper)(K:List LE->List PV->Mem->Prop)(i:Nat)(rest:List Oper)(g:List LE)(oo:Oper)(m:Mem)(t:List PV):Prop:=mg P wd base fl ops K (i+1) rest (g++[le0 ops oo]) (jq t oo.dst .ud) m
def nxe(P:Program)(wd base:Nat)(fl:List Nat)(ops:Array Oper)(K:List LE->List PV->Mem->Prop)(i:Nat)(rest:List Oper)(g:List LE)(oo:Oper)(ν:Nat)(t:List PV)(ρ:List Nat)(p:PV)(m:Mem):Prop:=mg P wd base fl ops K i rest (g++[Zaz ops oo ρ wd ν]) (jq t oo.dst p) m
def rge(P:Program)(wd base:Nat)(fl:List Nat)(ops:Array Oper)(K:List LE->List PV->Mem->Prop)(i:Nat)(rest:List Oper)(g:List LE)(oo:Oper)(m:Mem)(t:List PV):Prop:=
 if LN fl i=YY then Mp P wd (base+wd*i) oo.op t m (nxe P wd base fl ops K (i+1) rest g oo (base+wd*i) t)else rgd P wd base fl ops K i rest g oo m t
theorem NO{ν:Nat}{ρ:List Nat}:nxe P wd base fl ops KD i rest g oo ν t ρ p m=mg P wd base fl ops KD i rest (g++[Zaz ops oo ρ wd ν]) (jq t oo.dst p) m:=ek rfl
theorem Zbf:rge P wd base fl ops KD i rest g oo m t=if LN fl i=YY then Mp P wd (base+wd*i) oo.op t m (nxe P wd base fl ops KD (i+1) rest g oo (base+wd*i) t)else rgd P wd base fl ops KD i rest g oo m t:=ek rfl
theorem SP{i:Nat}:LN [] i=false:=ek rfl
theorem Pu{a i:Nat}{l:List Nat}:LN (a::l) i=if a=i then YY else LN l i:=ek rfl
theorem P9{wd ν:Nat}{f:FuncId}{xs:List Operand}{K:List Nat->PV->Mem->Prop}:Mp P wd ν (.call ⟨.value (.func f),xs.toArray,Ts⟩) t m K=(sU P f/\pIO P wd ν f (xs.map (gH t)) m K):=ek rfl
theorem NM:nxd P wd base fl ops KD i rest g t d p m=mg P wd base fl ops KD i rest g (jq t d p) m:=ek rfl
theorem Qa:mg P wd base fl ops KD i [] g t m=KD g t m:=by rfl
theorem TI:mg P wd base fl ops KD i (⟨d,o,ty,pos,af,YX⟩::rest) g t m=rge P wd base fl ops KD i rest g ⟨d,o,ty,pos,af,YX⟩ m t:=by rfl
theorem TH:mg P wd base fl ops KD i (⟨d,o,ty,pos,af,YW (j,b)⟩::rest) g t m=gd ((ops[j]?).bind (·.dst)) t b (rgd P wd base fl ops KD i rest g ⟨d,o,ty,pos,af,YW (j,b)⟩ m) (pgd P wd base fl ops KD i rest g ⟨d,o,ty,pos,af,YW (j,b)⟩ m):=by
 rfl
theorem Zbe:rgd P wd base fl ops KD i rest g oo m t=jj P YZ wd (base+wd*i) oo.op t m (nxd P wd base fl ops KD (i+1) rest (g++[LQ ops oo t wd (base+wd*i)]) t oo.dst):=ek rfl
theorem Za2:pgd P wd base fl ops KD i rest g oo m t=mg P wd base fl ops KD (i+1) rest (g++[le0 ops oo]) (jq t oo.dst .ud) m:=ek rfl
theorem VI{i:Nat}{run pass:List PV->Prop}:gd (YW i) t b run pass=gdV (t.getD i .un) i t b run pass:=ek rfl
theorem VH{run pass:List PV->Prop}:gd YX t b run pass=pass t:=ek rfl
theorem ZcX{i:Nat}{c:Bool}{run pass:List PV->Prop}:gdV (.v (.bool c)) i t YY run pass=tN c run pass t i:=ek rfl
theorem ZcW{i:Nat}{c:Bool}{run pass:List PV->Prop}:gdV (.v (.bool c)) i t YZ run pass=tN c pass run t i:=ek rfl
theorem ZcY{i:Nat}{run pass:List PV->Prop}:gdV .ud i t b run pass=pass t:=by rfl
theorem Qf{i:Nat}:jq t (YW i) p=t.set i p:=ek rfl
theorem Qe:jq t YX p=t:=ek rfl
theorem Np{i:Nat}:gH t (.tmp i)=t.getD i .un:=ek rfl
theorem VD{k:IntKind}{n:Int}:gH t (.const (.int k n))=.v (.int k n):=ek rfl
theorem IC{c:Bool}:gH t (.const (.bool c))=.v (.bool c):=ek rfl
theorem VF{c:ByteArray}:gH t (.const (.string c))=.v (.string c):=ek rfl
theorem ZcP{n c:Nat}:gH t (.const (.slice a n c))=.v (.slice a n c):=ek rfl
theorem VE:gH t (.const (.pointer a))=.v (.pointer a):=ek rfl
theorem R4{f:FuncId}:gH t (.func f)=.v (.func (.func f) #[] #[]):=ek rfl
theorem P6:jj P io wd ν (.move x) t m KA=KA (gH t x) m:=ek rfl
theorem J0:jj P io wd ν (.assign x) t m KA=KA (gH t x) m:=ek rfl
def E9(c x y:PV)(K:PV->Prop):Prop:=match c with
 |.v (.bool b)=>K (if b then x else y)
 |_=>False
theorem ZaS{x y:PV}:E9 (.v (.bool YY)) x y KR=KR x:=ek rfl
theorem ZaR{x y:PV}:E9 (.v (.bool YZ)) x y KR=KR y:=ek rfl
theorem P7{c x y:Operand}:jj P io wd ν (.pick c x y) t m KA=E9 (gH t c) (gH t x) (gH t y) (HY KA m):=ek rfl
theorem P5:jj P io wd ν (.load T x) t m KA=rX P T (KW m (gH t x)) (HY KA m):=ek rfl
theorem En:jj P io wd ν (.nilCheck x) t m KA=Ek m (gH t x) (HY KA m):=ek rfl
theorem Mi{op:BinOp}:jj P io wd ν (.binOp op T x y T') t m KA=JJ P op T (gH t x) (gH t y) (HY KA m):=ek rfl
theorem P8{op:UnOp}:jj P io wd ν (.unOp op T x) t m KA=pUn op (gH t x) (HY KA m):=ek rfl
theorem GR:jj P io wd ν (.convert T T' x) t m KA=rS P m T T' (gH t x) (HY KA m):=ek rfl
theorem Mn{lo hi:Option Operand}:jj P io wd ν (.slice T x lo hi YX) t m KA=kY P m T (gH t x) (lo.map (gH t)) (hi.map (gH t)) (HY KA m):=ek rfl
theorem Dq{f:Nat}:jj P io wd ν (.fieldAddr T x f) t m KA=kX P m T (gH t x) f (HY KA m):=ek rfl
theorem Mk{f:Nat}:jj P io wd ν (.field T x f) t m KA=vN P T (gH t x) f (HY KA m):=ek rfl
theorem Dr:jj P io wd ν (.indexAddr T x y) t m KA=cR P m T (gH t x) (gH t y) (HY KA m):=ek rfl
theorem Ml:jj P io wd ν (.index T x y) t m KA=sK P T (gH t x) (gH t y) (HY KA m):=ek rfl
theorem GS{i:Nat}:jj P io wd ν (.extract x i) t m KA=JM i (gH t x) (HY KA m):=ek rfl
theorem Mj{ps:List (Nat×Operand)}:jj P io wd ν (.build T ps.toArray) t m KA=vM P T (ps.map λq=>(q.1,gH t q.2)) (HY KA m):=ek rfl
theorem Em{f:FuncId}{cs:List Operand}:jj P io wd ν (.makeFunc (.func f) #[] cs.toArray) t m KA=KA (.fn f (cs.map (gH t))) m:=ek rfl
theorem TD:jj P io wd ν (.call ⟨.builtin .len,#[x],#[T]⟩) t m KA=wO P m T (gH t x) (HY KA m):=ek rfl
theorem TF:jj P io wd ν (.call ⟨.builtin .min,#[x,y],#[T,T']⟩) t m KA=qL YZ [gH t x,gH t y] (HY KA m):=ek rfl
theorem TE:jj P io wd ν (.call ⟨.builtin .max,#[x,y],#[T,T']⟩) t m KA=qL YY [gH t x,gH t y] (HY KA m):=ek rfl
theorem Mh:jj P io wd ν (.alloc T) t m KA=Aa ν m T (pz P T) KA:=ek rfl
theorem TA:jj P io wd ν (.box T x) t m KA=Aa ν m T (pc (gH t x)) KA:=ek rfl
theorem Bj{ps:List (Nat×Operand)}:jj P io wd ν (.buildSlice T n ps.toArray) t m KA=na P ν m T n (ps.map λq=>(q.1,gH t q.2)) KA:=ek rfl
theorem Ds:jj P io wd ν (.makeSlice T x y) t m KA=vO P ν m T (gH t x) (gH t y) KA:=ek rfl
theorem Mo:jj P io wd ν (.store T x y) t m KA=vP P m T (gH t x) (gH t y) KA:=ek rfl
theorem JZ:jj P io wd ν (.call ⟨.builtin .append,#[x,y],#[T,T]⟩) t m KA=gF P ν m T (gH t x) (gH t y) KA:=by
 have:jj P io wd ν (.call ⟨.builtin .append,#[x,y],#[T,T]⟩) t m KA=(T=T/\gF P ν m T (gH t x) (gH t y) KA):=rfl
 simp_all
theorem P4{f:FuncId}{xs:List Operand}:jj P io wd ν (.call ⟨.value (.func f),xs.toArray,Ts⟩) t m KA=(sU P f/\pH P io wd ν f (xs.map (gH t)) m KA):=ek rfl
def ZaP(P:Program)(io:Bool)(wd ν:Nat)(p:PV)(ps:List PV)(m:Mem)(K:PV->Mem->Prop):Prop:=match p with
 |.fn f cs=>(∀c∈cs,CX c=YY)/\sU P f/\pH P io wd ν f (ps++cs) m K
 |_=>False
theorem TC{i:Nat}{xs:List Operand}:jj P io wd ν (.call ⟨.value (.tmp i),xs.toArray,Ts⟩) t m KA=ZaP P io wd ν (t.getD i .un) (xs.map (gH t)) m KA:=ek rfl
theorem PW:Gx (YW v) KR=KR (.v v):=ek rfl
theorem ZdD{l i o:Nat}:KW m (.be l i o)=((look m l).bind λmb=>(mb.es[i]?).map (·.drop o)):=by
 unfold look KW
 cases h:m[l]? with
 |none=>grind
 |some x=>cases x<;>simp[h]
theorem Tb{x:Option MB}{m:Mem}:look (x::m) 0=x:=by rfl
theorem Ta{x:Option MB}{m:Mem}:look (x::m) (n+1)=look m n:=ek rfl
theorem Zds{x:Option MB}{m:Mem}:oS (x::m) 0 mb=YW mb::m:=by simp[oS]
theorem Zdr{x:Option MB}{m:Mem}:oS (x::m) (n+1) mb=x::oS m n mb:=by
 unfold oS;simp
theorem ZaD:oS [] 0 mb=[YW mb]:=ek rfl
theorem ZaE:oS [] (n+1) mb=YX::oS [] n mb:=by
 rfl
theorem Zdu{α:Type}(a b:α)(as_:List α):(a::as_).set 0 b=b::as_:=ek rfl
theorem Zdt{α:Type}(a b:α)(as_:List α)(n:Nat):(a::as_).set (n+1) b=a::as_.set n b:=ek rfl
theorem ZdM(c q:PV)(cs qs:List PV):xF (c::cs) 0 (q::qs)=q::xF cs 0 qs:=by rfl
theorem ZdK(cs:List PV):xF cs 0 []=cs:=by simp[xF]
theorem ZdL(c:PV)(cs qs:List PV)(n:Nat):xF (c::cs) (n+1) qs=c::xF cs n qs:=by
 simp only[xF,WU,XZ]
 grind
theorem ZdC{α:Type}(bs:List α):List.append [] bs=bs:=ek rfl
theorem ZdB{α:Type}(a:α)(as_ bs:List α):List.append (a::as_) bs=a::List.append as_ bs:=ek rfl
theorem Zcj{ν i:Nat}:sig [] ν i=ν+i:=by simp[sig]
theorem Zcl{a ν:Nat}{ρ:List Nat}:sig (a::ρ) ν 0=a:=ek rfl
theorem Zck{a ν i:Nat}{ρ:List Nat}:sig (a::ρ) ν (i+1)=sig ρ ν i:=by
 unfold sig;simp
theorem Fk{α:Type}{f:α->List PV}[hf:dI f]{σ:Nat->Nat}{xs:List α}:rY σ (xs.map f)=xs.map f:=by
 unfold rY;rw[List.map_map];apply WB;intro x _;have h1:=hf.h x;show(f x).map (sa σ)=f x;generalize f x=cs at h1
 induction cs with
 |nil=>rfl
 |cons c cs ih=>
  rw[XI,ih λq hq=>h1 q (Wl _ hq)]
  congr 1
  have hc:=h1 c Wo;have k1:∀{d:PV},uG d=YY->u6 σ d=d:=λ{d} hd=>by cases d<;>simp_all[uG,u6]
  cases c with
  |fn g ds=>
   simp only[sq,V2]at hc
   simp only[sa]
   congr 1
   have e:ds.map (u6 σ)=ds.map id:=WB λd hd=>k1 (hc d hd)
   simp_all
  |_=>simp_all[sq,uG,sa,u6]
theorem Qo{σ:Nat->Nat}:rY σ []=[]:=ek rfl
theorem Mv{σ:Nat->Nat}{c:List PV}{cs:List (List PV)}:rY σ (c::cs)=c.map (sa σ)::rY σ cs:=ek rfl
theorem yO{α:Type}{f:α->List PV}[hf:dI f]{xs:List α}:Zbl (xs.map f):=by
 intro cs so q hq;obtain⟨x,_,rfl⟩:=WI.1 so;exact hf.h x q hq
theorem Kf{α:Type}{f:α->List PV}[hf:dI f]{xs:List α}:(∀cs∈xs.map f,∀q∈cs,sq q=YY)=True:=by
 simp only[eq_iff_iff,iff_true];exact yO
theorem tP{c:PV}(h:sq c=YY):eK YZ c:=by
 cases c with
 |fn f cs=>
  simp only[sq,V2]at h
  exact⟨rfl,λd hd=>by have:=h d hd;cases d<;>simp_all[uG,CX]⟩
 |_=>intro h;cases h
theorem CI{c:PV}(h:Jg c=YY):eK YY c:=by
 cases c<;>first|exact λ_=>h|simp[Jg]at h
theorem O9{α:Type}{f:α->List PV}[hf:dI f]{xs:List α}:(∀cs∈xs.map f,∀p∈cs,eK YZ p)=True:=by
 simp only[eq_iff_iff,iff_true];intro cs so q hq;obtain⟨x,_,rfl⟩:=WI.1 so;exact tP (hf.h x q hq)
theorem Pa{α:Type}{f:α->List PV}[hf:qQ f]{xs:List α}:(∀cs∈xs.map f,∀p∈cs,eK YY p)=True:=by
 simp only[eq_iff_iff,iff_true];intro cs so q hq;obtain⟨x,_,rfl⟩:=WI.1 so;exact CI (hf.h x q hq)
theorem EZ{A:MB->Prop}:live m l A=(match look m l with
 |some mb=>A mb
 |none=>False):=mF A
theorem yd{α β:Type}(f:α->β)(xs:List α)(n:Nat):(xs.map f).drop n=(xs.drop n).map f:=List.map_drop.symm
theorem yZ{α β:Type}(f:α->β)(xs:List α)(n:Nat):(xs.map f).take n=(xs.take n).map f:=List.map_take.symm
end
section
variable {P:Program} {n0:Nat} {Q:Exit->List PV->Mem->Prop} {t t':List PV} {m m':Mem} {K:List PV->Mem->Prop} {KR:PV->Prop} {KA:PV->Mem->Prop}
theorem sg:rO K Q .normal t m=K t m:=rfl
theorem DV{i:Nat}:rO K Q (.exit i) t m=Q (.exit i) t m:=rfl
theorem FC:rO K Q .ret t m=Q .ret t m:=rfl
theorem rq:vm id Q .normal t m=Q .normal t m:=rfl
theorem Ar{id i:Nat}:vm id Q (.exit i) t m=if i=id then Q .normal t m else Q (.exit i) t m:=rfl
theorem Ch:vm id Q .ret t m=Q .ret t m:=rfl
theorem Za9{x y:Code}(h:∀K:List PV->Mem->Prop,(∀t m,qP P n0 y Q t m->K t m)->qP P n0 x (rO K Q) t m):qP P n0 (.seq x y) Q t m:=
 h (λt m=>qP P n0 y Q t m) (λ_ _ h=>h)
theorem Qh{c:Code}(h:qP P n0 c (vm id Q) t m):qP P n0 (.block id c) Q t m:=h
def Ig(p:PV)(A B:Prop):Prop:=match p with
 |.v (.bool b)=>(b=YY->A)/\(b=YZ->B)
 |_=>False
theorem Qi{c:Operand}{x y:Code}(h:Ig (gH t c) (qP P n0 x Q t m) (qP P n0 y Q t m)):qP P n0 (.cond c x y) Q t m:=by
 unfold Ig at h
 split at h
 ·rename_i b hb
  simp only[qP,hb]
  simp_all
 simp_all
theorem RH{A B:Prop}(h:A):Ig (.v (.bool YY)) A B:=⟨λ_=>h,λh=>by cases h⟩
theorem RG{A B:Prop}(h:B):Ig (.v (.bool YZ)) A B:=⟨λh=>YA,λ_=>h⟩
theorem Ih{b:Bool}{A B:Prop}(h1:b=YY->A)(h2:b=YZ->B):Ig (.v (.bool b)) A B:=⟨h1,h2⟩
theorem TR(h:Q .normal t m):qP P n0 .skip Q t m:=h
theorem TO{i:Nat}(h:Q (.exit i) t m):qP P n0 (.exit i) Q t m:=h
theorem Za8(h:Q .ret t m):qP P n0 .ret Q t m:=h
theorem Mu{ops:List Oper}(h:sV P ops.toArray (Q .normal) ops t m):qP P n0 (.region id ops.toArray YZ) Q t m:=.inl h
def O2(ops:List Oper)(K:List PV->Mem->Prop)(g:List LE)(t:List PV)(m:Mem):Prop:=Lf ops g=YY/\K t m
theorem TM{ops:List Oper}(h1:P.follows .mixedOrders=YY)(h:mg P 4 m.length [] ops.toArray (O2 ops (Q .normal)) 0 ops [] t m):qP P n0 (.region id ops.toArray YY) Q t m:=.inl ⟨h1,4,[],by decide,h⟩
theorem Qj{id wd:Nat}{fl:List Nat}{ops:List Oper}(I7:Y0 (0<wd)=YY)(h1:P.follows .mixedOrders=YY)(h:mg P wd m.length fl ops.toArray (O2 ops (Q .normal)) 0 ops [] t m):qP P n0 (.region id ops.toArray YY) Q t m:=.inl ⟨h1,wd,fl,Yh I7,h⟩
theorem Lq{ops:List Oper}{g:List LE}(h1:Lf ops g=YY)(h2:K t m):O2 ops K g t m:=⟨h1,h2⟩
theorem Qk{c:Code}{σ ο R:Type}{body:σ->Option (σ⊕ο)}[E:bp body]{N:Nat}{s0:σ}{Zar:ο->Option R}{r:R}(H:(aE body N s0).bind Zar=YW r)(hcut:rD n0 t m (E.T s0) (E.M s0))
 (SG:∀n s,(aE body (n+1) s).bind Zar=YW r->∀K:List PV->Mem->Prop,(∀s' t m,(aE body n s').bind Zar=YW r->rD n0 t m (E.T s') (E.M s')->K t m)->qP P n0 c (rO K Q) (E.T s) (E.M s)):qP P n0 (.loop c) Q t m:=by
 refine⟨λn t m=>∃s,(aE body n s).bind Zar=YW r/\t=E.T s/\m=E.M s,N,E.T s0,E.M s0,hcut,⟨s0,H,rfl,rfl⟩,?_⟩
 rintro n t m ⟨s,hI,rfl,rfl⟩
 cases n with
 |zero=>exact(Hno hI).elim
 |succ n=>grind
/-! Zd9. -/
def ke(P:Program)(T:TypeId):Nat:=match P.underlying T with
 |some (.slice e)=>P.cellsOf e
 |_=>0
theorem tK(h:0<ke P T):∃e,P.underlying T=YW (.slice e)/\ke P T=P.cellsOf e:=by
 unfold ke at *
 grind
theorem nY{α:Type}{xs:List α}{i:Int}{x:α}(h:aB xs i=YW x):0<=i/\xs[i.toNat]?=YW x:=by
 unfold aB at h
 simp_all
theorem F7{α:Type}{xs:List α}{i:Int}{x:α}(h:aB xs i=YW x):0<=i/\i<xs.length/\xs[i.toNat]?=YW x:=by
 obtain⟨h1,h2⟩:=nY h
 grind
theorem Zdj{α:Type}{f:α->List PV}{xs:List α}{x:α}{i:Int}{k:IntKind}(h:aB xs i=YW x)(hp:0<ke P T)(hc:(f x).length=ke P T)(hK:KR (.rp (f x))):cR P m T (.sl (xs.map f)) (.v (.int k i)) KR:=by
 obtain⟨h1,h2,h3⟩:=F7 h;obtain⟨e,hu,he⟩:=tK hp;rw[he]at hp hc
 have hd:(xs.map f).getD i.toNat []=f x:=by simp_all
 simp only[cR,hu,Wj]
 simp_all
theorem Zdi{α:Type}{f:α->List PV}{xs:List α}{x:α}{T':TK}{i:Int}{k:IntKind}(h:aB xs i=YW x)(hm:look m l=YW ⟨T',k',xs.map f⟩)(hp:0<ke P T)(hk:k'=ke P T)(hK:KR (.be l i.toNat 0)):cR P m T (.ms l) (.v (.int k i)) KR:=by
 obtain⟨h1,h2,h3⟩:=F7 h;obtain⟨e,hu,he⟩:=tK hp;rw[he]at hk
 simp only[cR,hu,mF,hm,Wj]
 simp_all
theorem Zah{i c:Int}{k:IntKind}(h:uC s i=YW c)(hu:P.underlying T=YW .string)(hK:KR (.v (.int .u8 c))):sK P T (.v (.string s)) (.v (.int k i)) KR:=by
 unfold uC at h
 split at h
 ·rename_i hi
  cases h
  simp only[sK,hu]
  simp_all
 grind
theorem Gy{c:Prop}[Decidable c](hc:c)(h:KR (.v v)):Gx (if c then YW v else YX) KR:=by rw[if_pos hc];exact h
theorem Um{α:Type}{f:α->List PV}{xs:List α}{l h:Int}(hok:fJ l h xs.length=YY)(Ss:GB lo 0=YW l)(hhi:GB hi xs.length=YW h)(hp:0<ke P T)(hf:∀x,(f x).length=ke P T)(hK:KR (.sl ((cM xs l h).map f))):kY P m T (.sl (xs.map f)) lo hi KR:=by
 obtain⟨e,hu,he⟩:=tK hp;rw[he]at hp hf
 have tR:=Yh hok;simp only[kY,hu,Wj,Ss,hhi];refine⟨tR.1,tR.2.1,tR.2.2,hp,λcs so=>?_,?_⟩
 ·grind
 ·rw[yd,yZ];exact hK
theorem QE{l h:Int}(hok:fJ l h s.size=YY)(Ss:GB lo 0=YW l)(hhi:GB hi s.size=YW h)(hu:P.underlying T=YW .string)(hK:KR (.v (.string (He s l h)))):kY P m T (.v (.string s)) lo hi KR:=by
 have tR:=Yh hok;simp only[kY,hu,Ss,hhi];exact⟨tR.1,tR.2.1,tR.2.2,hK⟩
/-! Calls. -/
theorem OJ{f:FuncId}{io:Bool}{wd ν:Nat}(hs:yT m ps (λqs=>fa P f qs [] r m1))(hw:m1.length<=wd)(hm:∀mb,YW mb∈m1->∀cs∈mb.es,∀p∈cs,eK YY p)(hg:qR YY r)(hK:KA (yN (sig [] ν) r) (jQ (sig [] ν) ν m1 m)):pH P io wd ν f ps m KA:=
 .inl ⟨r,m1,hs,hw,λmb h cs hc p hp=>.inl (hm mb h cs hc p hp),hg,hK⟩
theorem gP(h:sq p=YY):eK YZ p/\xp 0 p=true:=by
 refine⟨tP h,?_⟩
 cases p with
 |fn f cs=>
  simp only[sq,V2]at h
  simp only[xp,V2];intro c hc;have:=h c hc
  cases c<;>simp_all[uG,Bf]
 |_=>simp_all[sq,uG,xp,Bf]
theorem rv{σ:Nat->Nat}(h:sq p=YY):sa σ p=p:=by
 have k1:∀{d:PV},uG d=YY->u6 σ d=d:=λ{d} hd=>by cases d<;>simp_all[uG,u6]
 cases p with
 |fn g ds=>
  simp only[sq,V2]at h
  simp only[sa]
  congr 1
  have e:ds.map (u6 σ)=ds.map id:=WB λd hd=>k1 (h d hd)
  simp_all
 |_=>simp_all[sq,uG,sa,u6]
theorem yq{σ:Nat->Nat}(h:Pv p=YY):yM σ p=p/\ta YZ p/\Gp 0 p=true:=by
 cases p with
 |ag cs=>
  simp only[Pv,V2]at h
  refine⟨?_,λc hc=>(gP (h c hc)).1,?_⟩
  ·simp only[yM]
   have e:cs.map (sa σ)=cs.map id:=WB λd hd=>rv (h d hd)
   simp_all
  ·simp only[Gp,V2];exact λc hc=>(gP (h c hc)).2
 |tu vs=>simp[Pv]at h
 |v x=>
  have h':sq (.v x)=true:=h;exact⟨rv (σ:=σ) h',(gP h').1,(gP h').2⟩
 |ud=>
  have h':sq (.ud)=true:=h;exact⟨rv (σ:=σ) h',(gP h').1,(gP h').2⟩
 |un=>
  have h':sq (.un)=true:=h;exact⟨rv (σ:=σ) h',(gP h').1,(gP h').2⟩
 |sl es=>
  have h':sq (.sl es)=true:=h;exact⟨rv (σ:=σ) h',(gP h').1,(gP h').2⟩
 |rp cs=>
  have h':sq (.rp cs)=true:=h;exact⟨rv (σ:=σ) h',(gP h').1,(gP h').2⟩
 |ms l=>
  have h':sq (.ms l)=true:=h;exact⟨rv (σ:=σ) h',(gP h').1,(gP h').2⟩
 |ss l a b=>
  have h':sq (.ss l a b)=true:=h;exact⟨rv (σ:=σ) h',(gP h').1,(gP h').2⟩
 |be l i o=>
  have h':sq (.be l i o)=true:=h;exact⟨rv (σ:=σ) h',(gP h').1,(gP h').2⟩
 |fn f cs=>
  have h':sq (.fn f cs)=true:=h;exact⟨rv (σ:=σ) h',(gP h').1,(gP h').2⟩
theorem OI{f:FuncId}{io:Bool}{wd ν:Nat}(hs:fa P f ps [] r m1)(hp:∀p∈ps,Pv p=YY)(hw:m1.length<=wd)(hm:∀mb,YW mb∈m1->∀cs∈mb.es,∀p∈cs,eK YZ p)(hg:qR YZ r)(hK:KA (yN (sig [] ν) r) (jQ (sig [] ν) ν m1 m)):pH P io wd ν f ps m KA:=by
 refine .inr ⟨[],[],ps,r,m1,.inr rfl,hs,Ww _,Yn,?_,λq hq=>⟨(yq (σ:=id) (hp q hq)).2.1,(yq (σ:=id) (hp q hq)).2.2⟩,List.nodup_nil,trivial,hm,hg,by simpa[oU]using hK⟩
 have:ps.map (yM (sig [] ν))=ps.map id:=WB λp h=>(yq (hp p h)).1
 simp_all
/-! Zf8. -/
theorem Zcw{α:Type}{f:α->List PV}{xs ys:List α}{ν l e k:Nat}{x:PV}(hok:bn (xs.length+ys.length) (P.bytesOf e)=YY)(hu:P.underlying T=YW (.slice e))(hz:pz P e=YW zc)(xk:pL m x=YW (ys.map f))(hl:look m l=YW ⟨e,k,xs.map f⟩)
 (zj:zc.length=P.cellsOf e) (hp:0<P.cellsOf e) (hf:∀x,(f x).length=P.cellsOf e) (hk:k=P.cellsOf e) (hK:KA (.ms ν) (oS (m.set l YX) ν ⟨e,k,(xs++ys).map f⟩)):gF P ν m T (.ms l) x KA:=by
 subst hk;have tR:=Yh hok;simp only[gF,hu,hz,xk,mF,hl,Wj]
 simp_all
theorem Zcx{α:Type}{f:α->List PV}{ys:List α}{ν e:Nat}{x:PV}(hok:bn ys.length (P.bytesOf e)=YY)(hu:P.underlying T=YW (.slice e))(hz:pz P e=YW zc)(xk:pL m x=YW (ys.map f))
 (zj:zc.length=P.cellsOf e) (hp:0<P.cellsOf e) (hf:∀x,(f x).length=P.cellsOf e) (hK:KA (.ms ν) (oS m ν ⟨e,P.cellsOf e,ys.map f⟩)):gF P ν m T (.v (.slice YX 0 0)) x KA:=by
 have tR:=Yh hok;simp only[gF,hu,hz,xk,Wj]
 simp_all
/-! rD. -/
theorem RU{ρ:Nat->Option Nat}:D8 ρ m m' [] []:=trivial
theorem Vt{ρ:Nat->Option Nat}{ps rs:List PV}(h:D8 ρ m m' ps rs):D8 ρ m m' (p::ps) (.un::rs):=⟨.a (.c (.un p)),h⟩
theorem ZcJ{ρ:Nat->Option Nat}{ps rs:List PV}(hc:D6 ρ m m' p r)(h:D8 ρ m m' ps rs):D8 ρ m m' (p::ps) (r::rs):=⟨hc,h⟩
theorem RV{ρ:Nat->Option Nat}(h:sq p=YY):D6 ρ m m' p p:=.a (.c (.c p h))
theorem ZcK{ρ:Nat->Option Nat}(h:oW ρ m m' p r):D6 ρ m m' p r:=.a (.c h)
theorem Vu{ρ:Nat->Option Nat}(h:rG ρ m m' cs ds):D6 ρ m m' (.ag cs) (.ag ds):=.a (.ag cs ds h)
theorem Vo{ρ:Nat->Option Nat}(h:rG ρ m m' cs ds):FK ρ m m' (.ag cs) (.ag ds):=.ag cs ds h
theorem ZcD{ρ:Nat->Option Nat}(h:oW ρ m m' p r):FK ρ m m' p r:=.c h
theorem Vv{ρ:Nat->Option Nat}(h:Cs ρ m m' cs ds):D6 ρ m m' (.tu cs) (.tu ds):=.tu cs ds h
theorem OQ{ρ:Nat->Option Nat}:Cs ρ m m' [] []:=trivial
theorem Vp{ρ:Nat->Option Nat}{ps rs:List PV}(hc:FK ρ m m' p r)(h:Cs ρ m m' ps rs):Cs ρ m m' (p::ps) (r::rs):=⟨hc,h⟩
theorem RT{ρ:Nat->Option Nat}:rG ρ m m' [] []:=trivial
theorem ZcI{ρ:Nat->Option Nat}{ps rs:List PV}(hc:oW ρ m m' p r)(h:rG ρ m m' ps rs):rG ρ m m' (p::ps) (r::rs):=⟨hc,h⟩
def fV(rs:List (Option Nat))(l:Nat):Option Nat:=(rs[l]?).join
theorem T5{x:Option Nat}:fV (x::rs) 0=x:=by rfl
theorem Kd{x:Option Nat}:fV (x::rs) (l+1)=fV rs l:=rfl
theorem Vs(h:fV rs l=YW k)(hl:Y0 (l<m'.length)=YY):oW (fV rs) m m' (.ms k) (.ms l):=.ms l k h (Yh hl)
theorem Vr{l k i o:Nat}(h:fV rs l=YW k)(hl:Y0 (l<m'.length)=YY):oW (fV rs) m m' (.be k i o) (.be l i o):=.be l k i o h (Yh hl)
theorem Lj(h:fV rs l=YX)(hl:Y0 (l<m'.length)=YY):oW (fV rs) m m' (.v (.slice YX 0 0)) (.ms l):=.Zcf l h (Yh hl)
theorem Lk{α:Type}{f:α->List PV}{ρ:Nat->Option Nat}{c:Nat}:oW ρ m m' (.v (.slice YX 0 c)) (.sl (([]:List α).map f)):=.NK c
def ZfS(rs:List (Option Nat))(k:Nat):Bool:=rs.all λx=>match x with
 |some j=>!decide (j=k)
 |none=>YY
theorem Cw(h:ZfS rs k=YY):dropped (fV rs) m' k:=by
 intro l _ he;unfold fV at he
 cases hl:rs[l]? with
 |none=>simp_all
 |some x=>
  rw[hl]at he
  have he':x=YW k:=he;subst he';have:=V2.1 h _ (VW hl)
  simp_all
theorem Ik{α:Type}{f:α->List PV}[dI f]{xs:List α}{T:TK}(hm:look m k=YW ⟨T,k',xs.map f⟩)(hd:dropped (fV rs) m' k):oW (fV rs) m m' (.ms k) (.sl (xs.map f)):=.fms k ⟨T,k',xs.map f⟩ (jt.1 hm) yO hd
theorem RN{T:TK}(hm:look m k=YW ⟨T,k',[cs]⟩)(hc:cs.all sq=YY)(hd:dropped (fV rs) m' k):oW (fV rs) m m' (.be k 0 0) (.rp cs):=by
 have:=oW.fbe (ρ:=fV rs) (m:=m) (m':=m') k 0 0 ⟨T,k',[cs]⟩ cs (jt.1 hm) rfl (V2.1 hc) hd
 simp_all
def vp(ρ:Nat->Option Nat)(m m':Mem)(mb nH:MB):Prop:=ZeD ρ m m' mb nH/\∀k0:Nat,m[k0]?=YW (YW mb)->OX ρ m m' mb nH
def Gu:PV->Bool
 |.ms _|.ss ..=>YZ
 |_=>YY
theorem Cv{ρ:Nat->Option Nat}(h:nH.T.kd=YX):OX ρ m m' mb nH:=λT hT=>by simp_all
theorem EE{ρ:Nat->Option Nat}:OX ρ m m' mb mb:=λ_ hT _ ds _ _ hi hj _=>.inl ⟨hT,ds,hi,hj⟩
theorem Ng{ρ:Nat->Option Nat}{es:List (List PV)}(h:oW ρ m m' p (.sl es))(hp:Gu p=YY)(gZ:es≠[]):p=.sl es:=by
 cases h with
 |c _ _=>rfl
 |NK c=>simp_all
 |fms=>cases hp
 |fss=>cases hp
theorem ZcH{ρ:Nat->Option Nat}{T:TK}{es tC:List (List PV)}(h:yb ρ m m' es tC)(hn:∀cs∈es,∀p∈cs,Gu p=YY):OX ρ m m' ⟨T,k,es⟩ ⟨T,k',tC⟩:=λT1 hT i ds j l hi hj gZ=>by
 obtain⟨cs,h1,h2⟩:=(sC h).2 i ds hi;obtain⟨p,h3,h4⟩:=(tI h2).2 j _ hj;have:=Ng h4 (hn cs (VW h1) p (VW h3)) gZ
 simp_all
def oh(rs:List (Option Nat))(m m':Mem):List (Option Nat)->Mem->Prop
 |_,[]=>True
 |r::rr,YX::mm=>oh rs m m' rr mm
 |some k::rr,YW nH::mm=>(∃mb,look m k=YW mb/\vp (fV rs) m m' mb nH)/\oh rs m m' rr mm
 |none::rr,YW nH::mm=>(nH.es=[]/\0<nH.k)/\oh rs m m' rr mm
 |_,_=>False
theorem MD:oh rs m m' rr []:=by unfold oh;simp
theorem Kg{r:Option Nat}(h:oh rs m m' rr mm):oh rs m m' (r::rr) (YX::mm):=h
theorem Kh(h1:look m k=YW mb)(h2:vp (fV rs) m m' mb nH)(h:oh rs m m' rr mm):oh rs m m' (YW k::rr) (YW nH::mm):=⟨⟨mb,h1,h2⟩,h⟩
theorem MC{α:Type}{f:α->List PV}{T:TK}(hk:Y0 (0<k)=YY)(h:oh rs m m' rr mm):oh rs m m' (YX::rr) (YW ⟨T,k,([]:List α).map f⟩::mm):=⟨⟨rfl,Yh hk⟩,h⟩
theorem zy{α:Type}{f:α->List PV}[dI f]{ρ:Nat->Option Nat}{T:TK}{xs:List α}:vp ρ m m' ⟨T,k,xs.map f⟩ ⟨T,k,xs.map f⟩:=⟨⟨rfl,rfl,.inl ⟨rfl,yO⟩⟩,λ_ _=>EE⟩
theorem RJ{ρ:Nat->Option Nat}{T k:Nat}(h:rG ρ m m' cs ds):vp ρ m m' ⟨T,k,[cs]⟩ ⟨T,k,[ds]⟩:=⟨⟨rfl,rfl,.inr ⟨h,trivial⟩⟩,λ_ _=>Cv rfl⟩
theorem uK{rs:List (Option Nat)}:∀(rr:List (Option Nat)) (mm:Mem),oh rs m m' rr mm->∀l nH,mm[l]?=YW (YW nH)->(∃k mb,fV rr l=YW k/\m[k]?=YW (YW mb)/\vp (fV rs) m m' mb nH)\/(fV rr l=YX/\nH.es=[]/\0<nH.k)
 |_,[],_,l,nH,h=>by grind
 | [],YX::mm,h,_,_,_=>by unfold oh at h;simp_all
 | [],YW _::mm,h,_,_,_=>by unfold oh at h;simp_all
 |r::rr,YX::mm,h,l,nH,hl=>by
  cases l with
  |zero=>grind
  |succ l=>exact uK rr mm h l nH Yv
 |some k::rr,YW mb::mm,h,l,nH,hl=>by
  cases l with
  |zero=>
   obtain rfl:mb=nH:=by simp_all
   obtain⟨⟨KV,h1,h2⟩,_⟩:=h;exact .inl ⟨k,KV,rfl,jt.1 h1,h2⟩
  |succ l=>exact uK rr mm h.2 l nH Yv
 |none::rr,YW mb::mm,h,l,nH,hl=>by
  cases l with
  |zero=>
   obtain rfl:mb=nH:=by simp_all
   exact .inr ⟨rfl,h.1⟩
  |succ l=>exact uK rr mm h.2 l nH Yv
def Jd:List (Option Nat)->Bool
 | []=>YY
 |none::rs=>Jd rs
 |some k::rs=>ZfS rs k&&Jd rs
theorem Je:∀(rs:List (Option Nat)),Jd rs=YY->∀l l' k,fV rs l=YW k->fV rs l'=YW k->l=l'
 | [],_,l,l',k,h,_=>by simp[fV]at h
 |x::rs,hb,l,l',k,h,h'=>by
  have LC:∀{j:Nat},x=YW k->fV rs j=YW k->False:=by
   rintro j rfl hj;simp only[Jd,Wd]at hb
   have:=Cw (m':=[]) hb.1;unfold fV at hj
   cases hl:rs[j]? with
   |none=>simp_all
   |some y=>
    rw[hl]at hj
    have hy:y=YW k:=hj;subst hy;have:=V2.1 hb.1 _ (VW hl)
    simp_all
  have uU:Jd rs=true:=by cases x<;>simp_all[Jd]
  cases l with
  |zero=>
   rw[T5]at h
   cases l' with
   |zero=>rfl
   |succ l'=>exact(LC h (by simpa[Kd]using h')).elim
  |succ l=>
   rw[Kd]at h
   cases l' with
   |zero=>rw[T5]at h';simp_all
   |succ l'=>rw[Je rs uU l l' k h (by simpa[Kd]using h')]
def vL:Nat->Nat->List (Option Nat)->Mem->Bool
 |0,_,_,_=>YY
 |_+1,_,_,[]=>YZ
 |n+1,i,rs,YX::m=>vL n (i+1) (rs.drop 1) m
 |n+1,i,YW k::rs,YW _::m=>Y0 (k=i)&&vL n (i+1) rs m
 |_,_,_,_=>YZ
theorem yD:∀(n i:Nat) (rs:List (Option Nat)) (m':Mem),vL n i rs m'=YY->n<=m'.length/\∀l,l<n->td m' l=YY->fV rs l=YW (i+l)
 |0,i,rs,m',_=>⟨Ww _,λl hl=>Yn⟩
 |n+1,i,rs,[],h=>by simp[vL]at h
 |n+1,i,rs,YX::m,h=>by
  simp only[vL]at h
  obtain⟨h1,h2⟩:=yD n (i+1) (rs.drop 1) m h;refine⟨by simp_all,λl hl sR=>?_⟩
  cases l with
  |zero=>simp[td]at sR
  |succ l=>
   have:=h2 l Yn (by simpa[td]using sR)
   cases rs with
   |nil=>simp[fV]at this
   |cons x rs=>
    rw[Kd]
    grind
 |n+1,i,YW k::rs,YW mb::m,h=>by
  simp only[vL,Wd,decide_eq_true_eq]at h
  obtain⟨h1,h2⟩:=yD n (i+1) rs m h.2;refine⟨by simp_all,λl hl sR=>?_⟩
  cases l with
  |zero=>rw[T5,h.1];rfl
  |succ l=>
   rw[Kd,show i+(l+1)=i+1+l by omega]
   exact h2 l Yn (by simpa[td]using sR)
 |n+1,i,YX::rs,YW mb::m,h=>by simp[vL]at h
 |n+1,i,[],YW mb::m,h=>by simp[vL]at h
theorem ZcL(hT:D8 (fV rs) m m' t t')(hM:oh rs m m' rs m')(hi:Jd rs=YY)(hl:vL n0 0 rs m'=YY):rD n0 t m t' m':=
 .one ⟨fV rs,hT,λl nH hm=>(uK rs m' hM l nH hm).imp (λ⟨k,mb,a,b,c⟩=>⟨k,mb,a,b,c.1,c.2 k b⟩) id,λl l' k _ _=>Je rs hi l l' k,λl Nv sR=>by
  have:=(yD n0 0 rs m' hl).2 l Nv sR
  simp_all,(yD n0 0 rs m' hl).1⟩
end
end Go.Proofs.YtdilaemengjipaaGreatDoor
namespace Go.Proofs.YtdilaemengjipaaGreatDoor
set_option maxRecDepth 10000
open Go.ChangeShapes Go.WideShapes Go.ChangeAt Go.RowKit Go.Deep
variable {p:PV}{x:Value}
section
variable {H:Type} {enc:TypeId×Value->H} {P:Program} {w:World} {base:Nat} {spare:Nat->Bool} {held:Bool}
theorem Rj(a:Addr)(i j:Nat):(a.add i).add j=a.add (i+j):=by
 unfold Addr.add
 by_cases hi:i=0<;>by_cases hj:j=0<;>simp[hi,hj,XM]
end
def Reads(w:World)(ps:List PV)(cs:List Value):Prop:=
 ps.length=cs.length/\∀(j:Nat) (p:PV) (x:Value),ps[j]?=YW p->cs[j]?=YW x->x.oneCell'=YY/\eI w (λb=>b<w.heap.size) p x
def Zcp(P:Program)(t:TypeId){α:Type}(f:α->List PV)(ok:α->Prop):Prop:=
 ∀{H:Type} {enc:TypeId×Value->H} {w:World} {base:Nat} {spare:Nat->Bool} {held:Bool} {fuel:Nat} {cs:List Value} {x:DataW H×List MemPlace},
  DataW.trod enc P w base spare held fuel t cs=YW x->∃a:α,Reads w (f a) cs/\ok a
section
variable {w:World}
theorem wE(h1:x.oneCell'=YY)(h:eI w (λb=>b<w.heap.size) p x):Reads w [p] [x]:=by
 refine⟨rfl,λj c y hj hy=>?_⟩
 grind
theorem reads_rep1(h:Reads w [p] [x]):dG w (E1 (λb=>b<w.heap.size) (λ_=>YX) 0) p x:=.c (h.2 0 p x rfl rfl).2
end
section
variable {P:Program}
theorem decP_slice{α:Type}{f:α->List PV}{ok:α->Prop}{t e:TypeId}(ht:P.underlying t=YW (.slice e))(hk:0<P.cellsOf e)(Zg8:Zcp P e f ok):
 Zcp P t (λxs:List α=>[.sl (xs.map f)]) (λxs=>xs.length<=maxLen/\∀y∈xs,ok y):=by
 intro H enc w base spare held fuel cs x h
 rcases open_slice ht h with⟨rfl,_⟩ |⟨a,n,c,m,k,D,Pl,rfl,_,hl,hm,hmm,_,hi⟩
 ·exact⟨[],wE rfl (.nil _ _),by simp,by simp⟩
 have hnm:n<=m:=by grind
 have hex:∀i:_root_.Fin n,∃(a':α) (qy:List Value),ok a'/\Reads w (f a') qy/\w.cells? base (a.add (i*P.cellsOf e)) (P.cellsOf e)=YW qy:=by
  intro i;obtain⟨qy,hc,Ny⟩:=hi i Yn;obtain⟨a',hr,hok⟩:=Zg8 Ny
  grind
 obtain⟨g,hg⟩:=Xe hex;obtain⟨cc,BA⟩:=Xe hg;refine⟨Xs g,?_,by grind,λy hy=>by grind⟩
 rcases Nat.eq_zero_or_pos n with h0|ib
 ·subst h0
  rw[List.ofFn_zero];exact wE rfl (.nil _ _)
 have zd:∀(i:_root_.Fin n) (j:Nat),j<P.cellsOf e->w.cell? (a.add (i*P.cellsOf e+j))=(cc i)[j]?:=by
  intro i j hj;obtain⟨_,_,h3⟩:=World.cells?_some (BA i).2.2;have:=h3 j hj
  rwa[Rj]at this
 have hlen:∀i:_root_.Fin n,(cc i).length=P.cellsOf e:=λi=>(World.cells?_some (BA i).2.2).2.1
 have IV:w.cell? (a.add (0*P.cellsOf e+0))=YW ((cc ⟨0,ib⟩)[0]' Yv):=by
  rw[zd ⟨0,ib⟩ 0 hk];simp
 have hs:=World.cell?_spot IV;have hb:=World.block_lt_of_cell? _ _ IV;obtain⟨b,off,spot⟩:=a;have ZeX:∀q,(⟨b,off,YX⟩:Addr).add q=⟨b,off+q,YX⟩:=λq=>by unfold Addr.add;simp
 have Zfu:spot=none:=by simpa[Addr.add]using hs
 subst Zfu;rw[ZeX]at hb
 have vA:∀(i:Nat) (ps:List PV),((Xs g).map f)[i]?=YW ps->∃hi:i<n,ps=f (g ⟨i,hi⟩):=by
  simp
 have hu:∀(i:Nat) (ps:List PV) (j:Nat) (p:PV),((Xs g).map f)[i]?=YW ps->ps[j]?=YW p->
  ∃x,w.cell? ⟨b,off+i*P.cellsOf e+j,YX⟩=YW x/\x.oneCell'=YY/\eI w (λb=>b<w.heap.size) p x:=by
  intro i ps j p LD hp;obtain⟨hi,rfl⟩:=vA i ps LD;have hr:=(BA ⟨i,hi⟩).2.1;have hj:j<P.cellsOf e:=by rw[<-hlen ⟨i,hi⟩,<-hr.1];grind
  have hx:=zd ⟨i,hi⟩ j hj;rw[ZeX,<-XM]at hx
  have CM:j<(cc ⟨i,hi⟩).length:=by simp_all
  rw[VV CM]at hx
  exact⟨_,hx,hr.2 j p _ hp (VV CM)⟩
 have h:=eI.sl (w:=w) (S:=λb=>b<w.heap.size) ((Xs g).map f) b off (P.cellsOf e) c (λi j=>(w.cell? ⟨b,off+i*P.cellsOf e+j,YX⟩).getD .nilIface) hb hk Yv hm
  (λi ps LD=>by obtain⟨hi,rfl⟩:=vA i ps LD;rw[(BA ⟨i,hi⟩).2.1.1,hlen])
  (λi ps j p LD hp=>by grind)
  (λi ps j p LD hp=>by grind)
  (λi ps j p LD hp=>by grind)
 simp only[Wj,List.length_ofFn]at h
 exact wE rfl h
theorem CallOk.run{f:FuncId}{args:List PV}{b:Bool}(h:CallOk P f args (vb b) []){w:World}(ht:Es w (nC λ_=>YX)){vs:Array Value}(hl:vs.size=args.length)(ha:∀(i:Nat) (p:PV),args[i]?=YW p->∃x,vs[i]?=YW x/\dG w (E1 (λb=>b<w.heap.size) (λ_=>YX) 0) p x):
 Calls P f vs w λe w'=>e=.returned (.bool b)/\Up w w':=by
 have wU:∀{b':Nat},nC (λ_=>YX) b'->False:=by rintro b' ⟨l,B,h,_⟩;cases h
 have hok:Ok w (nC λ_=>YX) (E1 (λb=>b<w.heap.size) (λ_=>YX) 0) w []:=
  ⟨Et.refl _ _,λb h=>h,λl B h=>YA,λl l' B B' h=>YA,λl h=>absurd h (Nat.not_lt_zero l),λl B h=>YA,λl mb h=>Yr,λl B h=>YA,ht,λ_ _ h=>h.elim⟩
 refine(h (λb=>b<w.heap.size) (λ_=>YX) w vs (λ_ _=>False) hok hl ha).mono ?_
 rintro e w' ⟨v,E',rfl,hk,_,_,_,hr⟩
 cases hr with
 |c hr=>cases hr;exact⟨rfl,⟨hk.up.os,hk.up.tape,hk.up.output,hk.up.size,λb hb=>hk.up.block b hb λh=>wU h⟩⟩
end
end Go.Proofs.YtdilaemengjipaaGreatDoor
namespace Go.Proofs.YtdilaemengjipaaGreatDoor
set_option maxRecDepth 10000
open Go.RowKit
variable {E7 base i k k' l nu r wd ν ν':Nat}{J2 cs ds ps zc:List PV}{KD:List LE->List PV->Mem->Prop}{T T':TypeId}{T2:TK}{b io:Bool}{d:Option Tmp}{e':Exit}{es es2 tC:List (List PV)}{fl:List Nat}{g g':List LE}{hi lo:Option PV}{n y:List PV->Prop}{o:Op}{oo:Oper}{op:BinOp}{ops:Array Oper}{p p' x x' y':PV}{rest:List Oper}{α β:Type}{ρ:Nat->Option Nat}{A B:Option α}{f:α->List PV}
abbrev aG(x:Int):List PV:=[vi x]
abbrev iU(x:ByteArray):List PV:=[vs x]
abbrev Ck(x:Bool):List PV:=[vb x]
def ZfN(n:Int):Prop:=(Lit.int .i64 n).wf=YY
@[ext] structure bl where
 aw:Int
 bO:Int
 aY:ByteArray
 deriving DecidableEq
abbrev mC(x:bl):List PV:=[vi x.aw,vi x.bO,vs x.aY]
@[ext] structure aL where
 label:bl
 ar:ByteArray
 ab:Int
 bE:List Int
 value:Int
 deriving DecidableEq
abbrev bA(x:aL):List PV:=[vi x.label.aw,vi x.label.bO,vs x.label.aY,vs x.ar,vi x.ab,.sl (x.bE.map aG),vi x.value]
@[ext] structure ct where
 first:ByteArray
 last:ByteArray
 deriving DecidableEq
abbrev cG(x:ct):List PV:=[vs x.first,vs x.last]
@[ext] structure bF where
 nG:Int
 aw:Int
 oi:Int
 mr:Int
 deriving DecidableEq
abbrev cy(x:bF):List PV:=[vi x.nG,vi x.aw,vi x.oi,vi x.mr]
@[ext] structure bP where
 ar:ByteArray
 aY:ByteArray
 start:Int
 nd:Int
 vt:Int
 jk:Int
 deriving DecidableEq
abbrev bo(x:bP):List PV:=[vs x.ar,vs x.aY,vi x.start,vi x.nd,vi x.vt,vi x.jk]
@[ext] structure ah where
 aA:List bP
 off:List Int
 change:Int
 deriving DecidableEq
abbrev bB(x:ah):List PV:=[.sl (x.aA.map bo),.sl (x.off.map aG),vi x.change]
@[ext] structure av where
 bH:Int
 day:Int
 deriving DecidableEq
abbrev aU(x:av):List PV:=[vi x.bH,vi x.day]
@[ext] structure aq where
 bz:Int
 bk:av
 ab:Int
 deriving DecidableEq
abbrev aC(x:aq):List PV:=[vi x.bz,vi x.bk.bH,vi x.bk.day,vi x.ab]
@[ext] structure br where
 bz:Int
 aQ:Int
 kind:Int
 place:ByteArray
 bk:av
 deriving DecidableEq
abbrev bw(x:br):List PV:=[vi x.bz,vi x.aQ,vi x.kind,vs x.place,vi x.bk.bH,vi x.bk.day]
@[ext] structure az where
 ar:ByteArray
 aY:ByteArray
 aw:Int
 ab:Int
 aQ:Int
 eJ:Int
 aK:List av
 aO:Int
 state:Int
 place:ByteArray
 bQ:Int
 deriving DecidableEq
abbrev aZ(x:az):List PV:=[vs x.ar,vs x.aY,vi x.aw,vi x.ab,vi x.aQ,vi x.eJ,.sl (x.aK.map aU),vi x.aO,vi x.state,vs x.place,vi x.bQ]
@[ext] structure ax where
 aa:ah
 aj:List az
 au:List aq
 ae:List av
 now:Int
 aN:List br
 skip:List Int
 bg:Int
 deriving DecidableEq
abbrev gK(x:ax):List PV:=[.sl (x.aa.aA.map bo),.sl (x.aa.off.map aG),vi x.aa.change,.sl (x.aj.map aZ),.sl (x.au.map aC),.sl (x.ae.map aU),vi x.now,.sl (x.aN.map bw),.sl (x.skip.map aG),vi x.bg]
@[ext] structure bc where
 order:Int
 kind:Int
 bC:Int
 aQ:Int
 deriving DecidableEq
abbrev bK(x:bc):List PV:=[vi x.order,vi x.kind,vi x.bC,vi x.aQ]
@[ext] structure ba where
 kind:Int
 aJ:aL
 order:Int
 bC:Int
 bI:Int
 bk:av
 deriving DecidableEq
abbrev cX(x:ba):List PV:=[vi x.kind,vi x.aJ.label.aw,vi x.aJ.label.bO,vs x.aJ.label.aY,vs x.aJ.ar,vi x.aJ.ab,.sl (x.aJ.bE.map aG),vi x.aJ.value,vi x.order,vi x.bC,vi x.bI,vi x.bk.bH,vi x.bk.day]
@[ext] structure aF where
 world:ax
 aS:List ct
 aT:List bF
 aI:List Int
 aH:List aL
 lines:List bc
 aD:List ba
 deriving DecidableEq
abbrev lM(x:aF):List PV:=[.sl (x.world.aa.aA.map bo),.sl (x.world.aa.off.map aG),vi x.world.aa.change,.sl (x.world.aj.map aZ),.sl (x.world.au.map aC),.sl (x.world.ae.map aU),vi x.world.now,.sl (x.world.aN.map bw),.sl (x.world.skip.map aG),vi x.world.bg,.sl (x.aS.map cG),.sl (x.aT.map cy),.sl (x.aI.map aG),.sl (x.aH.map bA),.sl (x.lines.map bK),.sl (x.aD.map cX)]
@[ext] structure Hy where
 id:Int
 dest:Int
 deriving DecidableEq
abbrev wR(x:Hy):List PV:=[vi x.id,vi x.dest]
@[ext] structure K1 where
 cell:Int
 jk:Int
 held:List Hy
 deriving DecidableEq
abbrev zv(x:K1):List PV:=[vi x.cell,vi x.jk,.sl (x.held.map wR)]
@[ext] structure K5 where
 cell:Int
 wait:List Hy
 deriving DecidableEq
abbrev zw(x:K5):List PV:=[vi x.cell,.sl (x.wait.map wR)]
@[ext] structure MZ where
 ZgC:List Hy
 ZcB:List K1
 Zdk:List K5
 ZhR:List Int
 now:Int
 deriving DecidableEq
abbrev x7(x:MZ):List PV:=[.sl (x.ZgC.map wR),.sl (x.ZcB.map zv),.sl (x.Zdk.map zw),.sl (x.ZhR.map aG),vi x.now]
@[ext] structure Rf where
 id:Int
 own:Int
 jk:Int
 in_:Int
 box:Bool
 ZdJ:Bool
 deriving DecidableEq
abbrev xa(x:Rf):List PV:=[vi x.id,vi x.own,vi x.jk,vi x.in_,vb x.box,vb x.ZdJ]
@[ext] structure MY where
 places:List ByteArray
 Ke:List av
 deriving DecidableEq
abbrev x5(x:MY):List PV:=[.sl (x.places.map iU),.sl (x.Ke.map aU)]
@[go_sem] theorem tq2:prog.cellsOf 2=1/\prog.bytesOf 2=8/\pz prog 2=YW [.v (Y1 Y2 0)]:=by and_intros<;>kernel_rfl
@[go_sem] theorem tq3:prog.cellsOf 3=1/\prog.bytesOf 3=8/\pz prog 3=YW [.v (Y1 Y2 0)]:=by and_intros<;>kernel_rfl
@[go_sem] theorem tq4:prog.cellsOf 4=1/\prog.bytesOf 4=1/\pz prog 4=YW [.v (.bool YZ)]:=by and_intros<;>kernel_rfl
@[go_sem] theorem tq5:prog.cellsOf 5=1/\prog.bytesOf 5=1/\pz prog 5=YW [.v (.int .u8 0)]:=by and_intros<;>kernel_rfl
@[go_sem] theorem tq9:prog.cellsOf 9=1/\prog.bytesOf 9=16/\pz prog 9=YW [.v (.string ⟨#[]⟩)]:=by and_intros<;>kernel_rfl
@[go_sem] theorem Zi4:prog.cellsOf 12=1/\prog.bytesOf 12=8/\pz prog 12=YW [.v (.int .u64 0)]:=by and_intros<;>kernel_rfl
@[go_sem] theorem Zi5:prog.cellsOf 21=1/\prog.bytesOf 21=4/\pz prog 21=YW [.v (.int .i32 0)]:=by and_intros<;>kernel_rfl
@[go_sem] theorem Zi6:prog.cellsOf 22=1/\prog.bytesOf 22=24/\pz prog 22=YW [.v (.slice YX 0 0)]/\ke prog 22=1:=by and_intros<;>kernel_rfl
@[go_sem] theorem Zi7:prog.cellsOf 24=1/\prog.bytesOf 24=24/\pz prog 24=YW [.v (.slice YX 0 0)]/\ke prog 24=6:=by and_intros<;>kernel_rfl
@[go_sem] theorem Zi8:prog.cellsOf 25=1/\prog.bytesOf 25=24/\pz prog 25=YW [.v (.slice YX 0 0)]/\ke prog 25=1:=by and_intros<;>kernel_rfl
@[go_sem] theorem Zi9:prog.cellsOf 26=3/\prog.bytesOf 26=56/\pz prog 26=YW [.v (.slice YX 0 0),.v (.slice YX 0 0),.v (Y1 Y2 0)]/\prog.eqGuardType prog.depth 26=YZ/\prog.stoodInHeld 26=false:=by and_intros<;>kernel_rfl
@[go_sem] theorem Zja:prog.cellsOf 27=3/\prog.bytesOf 27=56/\pz prog 27=YW [.v (.slice YX 0 0),.v (.slice YX 0 0),.v (Y1 Y2 0)]/\prog.eqGuardType prog.depth 27=YZ/\prog.stoodInHeld 27=false:=by and_intros<;>kernel_rfl
@[go_sem] theorem Zjb:prog.cellsOf 28=1/\prog.bytesOf 28=24/\pz prog 28=YW [.v (.slice YX 0 0)]/\ke prog 28=11:=by and_intros<;>kernel_rfl
@[go_sem] theorem Zjc:prog.cellsOf 29=1/\prog.bytesOf 29=24/\pz prog 29=YW [.v (.slice YX 0 0)]/\ke prog 29=4:=by and_intros<;>kernel_rfl
@[go_sem] theorem Zjd:prog.cellsOf 30=1/\prog.bytesOf 30=24/\pz prog 30=YW [.v (.slice YX 0 0)]/\ke prog 30=2:=by and_intros<;>kernel_rfl
@[go_sem] theorem Zje:prog.cellsOf 31=1/\prog.bytesOf 31=24/\pz prog 31=YW [.v (.slice YX 0 0)]/\ke prog 31=6:=by and_intros<;>kernel_rfl
@[go_sem] theorem Zjf:prog.cellsOf 32=10/\prog.bytesOf 32=192/\pz prog 32=YW [.v (.slice YX 0 0),.v (.slice YX 0 0),.v (Y1 Y2 0),.v (.slice YX 0 0),.v (.slice YX 0 0),.v (.slice YX 0 0),.v (Y1 Y2 0),.v (.slice YX 0 0),.v (.slice YX 0 0),.v (Y1 Y2 0)]/\prog.eqGuardType prog.depth 32=YZ/\prog.stoodInHeld 32=false:=by and_intros<;>kernel_rfl
@[go_sem] theorem Zjg:prog.cellsOf 33=10/\prog.bytesOf 33=192/\pz prog 33=YW [.v (.slice YX 0 0),.v (.slice YX 0 0),.v (Y1 Y2 0),.v (.slice YX 0 0),.v (.slice YX 0 0),.v (.slice YX 0 0),.v (Y1 Y2 0),.v (.slice YX 0 0),.v (.slice YX 0 0),.v (Y1 Y2 0)]/\prog.eqGuardType prog.depth 33=YZ/\prog.stoodInHeld 33=false:=by and_intros<;>kernel_rfl
@[go_sem] theorem Zjh:prog.cellsOf 34=1/\prog.bytesOf 34=24/\pz prog 34=YW [.v (.slice YX 0 0)]/\ke prog 34=2:=by and_intros<;>kernel_rfl
@[go_sem] theorem Zji:prog.cellsOf 35=1/\prog.bytesOf 35=24/\pz prog 35=YW [.v (.slice YX 0 0)]/\ke prog 35=4:=by and_intros<;>kernel_rfl
@[go_sem] theorem Zjj:prog.cellsOf 36=1/\prog.bytesOf 36=24/\pz prog 36=YW [.v (.slice YX 0 0)]/\ke prog 36=7:=by and_intros<;>kernel_rfl
@[go_sem] theorem Zjk:prog.cellsOf 37=1/\prog.bytesOf 37=24/\pz prog 37=YW [.v (.slice YX 0 0)]/\ke prog 37=4:=by and_intros<;>kernel_rfl
@[go_sem] theorem Zjl:prog.cellsOf 38=1/\prog.bytesOf 38=24/\pz prog 38=YW [.v (.slice YX 0 0)]/\ke prog 38=13:=by and_intros<;>kernel_rfl
@[go_sem] theorem Zjm:prog.cellsOf 39=16/\prog.bytesOf 39=336/\pz prog 39=YW [.v (.slice YX 0 0),.v (.slice YX 0 0),.v (Y1 Y2 0),.v (.slice YX 0 0),.v (.slice YX 0 0),.v (.slice YX 0 0),.v (Y1 Y2 0),.v (.slice YX 0 0),.v (.slice YX 0 0),.v (Y1 Y2 0),.v (.slice YX 0 0),.v (.slice YX 0 0),.v (.slice YX 0 0),.v (.slice YX 0 0),.v (.slice YX 0 0),.v (.slice YX 0 0)]/\prog.eqGuardType prog.depth 39=YZ/\prog.stoodInHeld 39=false:=by and_intros<;>kernel_rfl
@[go_sem] theorem Zjn:prog.cellsOf 40=16/\prog.bytesOf 40=336/\pz prog 40=YW [.v (.slice YX 0 0),.v (.slice YX 0 0),.v (Y1 Y2 0),.v (.slice YX 0 0),.v (.slice YX 0 0),.v (.slice YX 0 0),.v (Y1 Y2 0),.v (.slice YX 0 0),.v (.slice YX 0 0),.v (Y1 Y2 0),.v (.slice YX 0 0),.v (.slice YX 0 0),.v (.slice YX 0 0),.v (.slice YX 0 0),.v (.slice YX 0 0),.v (.slice YX 0 0)]/\prog.eqGuardType prog.depth 40=YZ/\prog.stoodInHeld 40=false:=by and_intros<;>kernel_rfl
@[go_sem] theorem Zjo:prog.cellsOf 41=3/\prog.bytesOf 41=32/\pz prog 41=YW [.v (Y1 Y2 0),.v (Y1 Y2 0),.v (.string ⟨#[]⟩)]/\prog.eqGuardType prog.depth 41=YZ/\prog.stoodInHeld 41=false:=by and_intros<;>kernel_rfl
@[go_sem] theorem ZbI:prog.cellsOf 42=3/\prog.bytesOf 42=32/\pz prog 42=YW [.v (Y1 Y2 0),.v (Y1 Y2 0),.v (.string ⟨#[]⟩)]/\prog.eqGuardType prog.depth 42=YZ/\prog.stoodInHeld 42=false:=by and_intros<;>kernel_rfl
@[go_sem] theorem Zjp:prog.cellsOf 43=7/\prog.bytesOf 43=88/\pz prog 43=YW [.v (Y1 Y2 0),.v (Y1 Y2 0),.v (.string ⟨#[]⟩),.v (.string ⟨#[]⟩),.v (Y1 Y2 0),.v (.slice YX 0 0),.v (Y1 Y2 0)]/\prog.eqGuardType prog.depth 43=YZ/\prog.stoodInHeld 43=false:=by and_intros<;>kernel_rfl
@[go_sem] theorem Zjq:prog.cellsOf 44=7/\prog.bytesOf 44=88/\pz prog 44=YW [.v (Y1 Y2 0),.v (Y1 Y2 0),.v (.string ⟨#[]⟩),.v (.string ⟨#[]⟩),.v (Y1 Y2 0),.v (.slice YX 0 0),.v (Y1 Y2 0)]/\prog.eqGuardType prog.depth 44=YZ/\prog.stoodInHeld 44=false:=by and_intros<;>kernel_rfl
@[go_sem] theorem Zjr:prog.cellsOf 45=2/\prog.bytesOf 45=16/\pz prog 45=YW [.v (Y1 Y2 0),.v (Y1 Y2 0)]/\prog.eqGuardType prog.depth 45=YZ/\prog.stoodInHeld 45=false:=by and_intros<;>kernel_rfl
@[go_sem] theorem KE:prog.cellsOf 46=2/\prog.bytesOf 46=16/\pz prog 46=YW [.v (Y1 Y2 0),.v (Y1 Y2 0)]/\prog.eqGuardType prog.depth 46=YZ/\prog.stoodInHeld 46=false:=by and_intros<;>kernel_rfl
@[go_sem] theorem Zjs:prog.cellsOf 47=13/\prog.bytesOf 47=136/\pz prog 47=YW [.v (Y1 Y2 0),.v (Y1 Y2 0),.v (Y1 Y2 0),.v (.string ⟨#[]⟩),.v (.string ⟨#[]⟩),.v (Y1 Y2 0),.v (.slice YX 0 0),.v (Y1 Y2 0),.v (Y1 Y2 0),.v (Y1 Y2 0),.v (Y1 Y2 0),.v (Y1 Y2 0),.v (Y1 Y2 0)]/\prog.eqGuardType prog.depth 47=YZ/\prog.stoodInHeld 47=false:=by and_intros<;>kernel_rfl
@[go_sem] theorem Zjt:prog.cellsOf 48=13/\prog.bytesOf 48=136/\pz prog 48=YW [.v (Y1 Y2 0),.v (Y1 Y2 0),.v (Y1 Y2 0),.v (.string ⟨#[]⟩),.v (.string ⟨#[]⟩),.v (Y1 Y2 0),.v (.slice YX 0 0),.v (Y1 Y2 0),.v (Y1 Y2 0),.v (Y1 Y2 0),.v (Y1 Y2 0),.v (Y1 Y2 0),.v (Y1 Y2 0)]/\prog.eqGuardType prog.depth 48=YZ/\prog.stoodInHeld 48=false:=by and_intros<;>kernel_rfl
@[go_sem] theorem Zju:prog.cellsOf 77=2/\prog.bytesOf 77=32/\pz prog 77=YW [.v (.string ⟨#[]⟩),.v (.string ⟨#[]⟩)]/\prog.eqGuardType prog.depth 77=YZ/\prog.stoodInHeld 77=false:=by and_intros<;>kernel_rfl
@[go_sem] theorem ZbJ:prog.cellsOf 78=2/\prog.bytesOf 78=32/\pz prog 78=YW [.v (.string ⟨#[]⟩),.v (.string ⟨#[]⟩)]/\prog.eqGuardType prog.depth 78=YZ/\prog.stoodInHeld 78=false:=by and_intros<;>kernel_rfl
@[go_sem] theorem Zjv:prog.cellsOf 80=4/\prog.bytesOf 80=32/\pz prog 80=YW [.v (Y1 Y2 0),.v (Y1 Y2 0),.v (Y1 Y2 0),.v (Y1 Y2 0)]/\prog.eqGuardType prog.depth 80=YZ/\prog.stoodInHeld 80=false:=by and_intros<;>kernel_rfl
@[go_sem] theorem ZbK:prog.cellsOf 81=4/\prog.bytesOf 81=32/\pz prog 81=YW [.v (Y1 Y2 0),.v (Y1 Y2 0),.v (Y1 Y2 0),.v (Y1 Y2 0)]/\prog.eqGuardType prog.depth 81=YZ/\prog.stoodInHeld 81=false:=by and_intros<;>kernel_rfl
@[go_sem] theorem Zjw:prog.cellsOf 84=4/\prog.bytesOf 84=32/\pz prog 84=YW [.v (Y1 Y2 0),.v (Y1 Y2 0),.v (Y1 Y2 0),.v (Y1 Y2 0)]/\prog.eqGuardType prog.depth 84=YZ/\prog.stoodInHeld 84=false:=by and_intros<;>kernel_rfl
@[go_sem] theorem ZbL:prog.cellsOf 85=4/\prog.bytesOf 85=32/\pz prog 85=YW [.v (Y1 Y2 0),.v (Y1 Y2 0),.v (Y1 Y2 0),.v (Y1 Y2 0)]/\prog.eqGuardType prog.depth 85=YZ/\prog.stoodInHeld 85=false:=by and_intros<;>kernel_rfl
@[go_sem] theorem Zjx:prog.cellsOf 93=11/\prog.bytesOf 93=128/\pz prog 93=YW [.v (.string ⟨#[]⟩),.v (.string ⟨#[]⟩),.v (Y1 Y2 0),.v (Y1 Y2 0),.v (Y1 Y2 0),.v (Y1 Y2 0),.v (.slice YX 0 0),.v (Y1 Y2 0),.v (Y1 Y2 0),.v (.string ⟨#[]⟩),.v (Y1 Y2 0)]/\prog.eqGuardType prog.depth 93=YZ/\prog.stoodInHeld 93=false:=by and_intros<;>kernel_rfl
@[go_sem] theorem Zjy:prog.cellsOf 94=11/\prog.bytesOf 94=128/\pz prog 94=YW [.v (.string ⟨#[]⟩),.v (.string ⟨#[]⟩),.v (Y1 Y2 0),.v (Y1 Y2 0),.v (Y1 Y2 0),.v (Y1 Y2 0),.v (.slice YX 0 0),.v (Y1 Y2 0),.v (Y1 Y2 0),.v (.string ⟨#[]⟩),.v (Y1 Y2 0)]/\prog.eqGuardType prog.depth 94=YZ/\prog.stoodInHeld 94=false:=by and_intros<;>kernel_rfl
@[go_sem] theorem Zig:prog.cellsOf 114=1/\prog.bytesOf 114=24/\pz prog 114=YW [.v (.slice YX 0 0)]/\ke prog 114=1:=by and_intros<;>kernel_rfl
@[go_sem] theorem Zih:prog.cellsOf 118=3/\prog.bytesOf 118=40/\pz prog 118=YW [.v (.slice YX 0 0),.v (Y1 Y2 0),.v (Y1 Y2 0)]/\prog.eqGuardType prog.depth 118=YZ/\prog.stoodInHeld 118=false:=by and_intros<;>kernel_rfl
@[go_sem] theorem Zii:prog.cellsOf 119=3/\prog.bytesOf 119=40/\pz prog 119=YW [.v (.slice YX 0 0),.v (Y1 Y2 0),.v (Y1 Y2 0)]/\prog.eqGuardType prog.depth 119=YZ/\prog.stoodInHeld 119=false:=by and_intros<;>kernel_rfl
@[go_sem] theorem Zij:prog.cellsOf 143=6/\prog.bytesOf 143=64/\pz prog 143=YW [.v (.string ⟨#[]⟩),.v (.string ⟨#[]⟩),.v (Y1 Y2 0),.v (Y1 Y2 0),.v (Y1 Y2 0),.v (Y1 Y2 0)]/\prog.eqGuardType prog.depth 143=YZ/\prog.stoodInHeld 143=false:=by and_intros<;>kernel_rfl
@[go_sem] theorem Oj:prog.cellsOf 144=6/\prog.bytesOf 144=64/\pz prog 144=YW [.v (.string ⟨#[]⟩),.v (.string ⟨#[]⟩),.v (Y1 Y2 0),.v (Y1 Y2 0),.v (Y1 Y2 0),.v (Y1 Y2 0)]/\prog.eqGuardType prog.depth 144=YZ/\prog.stoodInHeld 144=false:=by and_intros<;>kernel_rfl
@[go_sem] theorem Zik:prog.cellsOf 146=4/\prog.bytesOf 146=32/\pz prog 146=YW [.v (Y1 Y2 0),.v (Y1 Y2 0),.v (Y1 Y2 0),.v (Y1 Y2 0)]/\prog.eqGuardType prog.depth 146=YZ/\prog.stoodInHeld 146=false:=by and_intros<;>kernel_rfl
@[go_sem] theorem Ol:prog.cellsOf 147=4/\prog.bytesOf 147=32/\pz prog 147=YW [.v (Y1 Y2 0),.v (Y1 Y2 0),.v (Y1 Y2 0),.v (Y1 Y2 0)]/\prog.eqGuardType prog.depth 147=YZ/\prog.stoodInHeld 147=false:=by and_intros<;>kernel_rfl
@[go_sem] theorem Zil:prog.cellsOf 150=6/\prog.bytesOf 150=56/\pz prog 150=YW [.v (Y1 Y2 0),.v (Y1 Y2 0),.v (Y1 Y2 0),.v (.string ⟨#[]⟩),.v (Y1 Y2 0),.v (Y1 Y2 0)]/\prog.eqGuardType prog.depth 150=YZ/\prog.stoodInHeld 150=false:=by and_intros<;>kernel_rfl
@[go_sem] theorem Om:prog.cellsOf 151=6/\prog.bytesOf 151=56/\pz prog 151=YW [.v (Y1 Y2 0),.v (Y1 Y2 0),.v (Y1 Y2 0),.v (.string ⟨#[]⟩),.v (Y1 Y2 0),.v (Y1 Y2 0)]/\prog.eqGuardType prog.depth 151=YZ/\prog.stoodInHeld 151=false:=by and_intros<;>kernel_rfl
@[go_sem] theorem Zim:prog.cellsOf 221=1/\prog.bytesOf 221=24/\pz prog 221=YW [.v (.slice YX 0 0)]/\ke prog 221=1:=by and_intros<;>kernel_rfl
@[go_sem] theorem Zin:prog.cellsOf 222=1/\prog.bytesOf 222=8/\pz prog 222=YW [.v (.int .u64 0)]:=by and_intros<;>kernel_rfl
@[go_sem] theorem Zio:prog.cellsOf 232=1/\prog.bytesOf 232=24/\pz prog 232=YW [.v (.slice YX 0 0)]/\ke prog 232=1:=by and_intros<;>kernel_rfl
@[go_sem] theorem Ziq:prog.cellsOf 282=1/\prog.bytesOf 282=8/\pz prog 282=YW [.v (.int .u64 0)]:=by and_intros<;>kernel_rfl
@[go_sem] theorem Zir:prog.cellsOf 295=1/\prog.bytesOf 295=4/\pz prog 295=YW [.v (.int .u32 0)]:=by and_intros<;>kernel_rfl
attribute [go_sem] Tryz.underlying2 Tryz.underlying3 Tryz.underlying4 Tryz.underlying5 Tryz.underlying9 Tryz.underlying12 Tryz.underlying21 Tryz.underlying22 Tryz.underlying24 Tryz.underlying25 Tryz.underlying26 Tryz.underlying27 Tryz.underlying28 Tryz.underlying29 Tryz.underlying30 Tryz.underlying31 Tryz.underlying32 Tryz.underlying33 Tryz.underlying34 Tryz.underlying35 Tryz.underlying36 Tryz.underlying37 Tryz.underlying38 Tryz.underlying39 Tryz.underlying40 Tryz.underlying41 Tryz.underlying42 Tryz.underlying43 Tryz.underlying44 Tryz.underlying45 Tryz.underlying46 Tryz.underlying47 Tryz.underlying48 Tryz.underlying77 Tryz.underlying78 Tryz.underlying80 Tryz.underlying81 Tryz.underlying84 Tryz.underlying85 Tryz.underlying93 Tryz.underlying94 Tryz.underlying114 Tryz.underlying118 Tryz.underlying119 Tryz.underlying143 Tryz.underlying144 Tryz.underlying146 Tryz.underlying147 Tryz.underlying150 Tryz.underlying151 Tryz.underlying221 Tryz.underlying222 Tryz.underlying232 Tryz.underlying282 Tryz.underlying295
theorem tc {P : Program} (h : (match P.funcs[k]? with | some f => f.body.isSome && !(f.name == "runtime.NumGoroutine") | none => YZ) = YY) : sU P k := by
 split at h
 ·rename_i f e
  simp only[Wd,Bool.not_eq_true']at h
  exact⟨f,e,h.1,h.2⟩
 ·cases h
theorem fb0 : (Ws 185).all (λk => Y0 (k < 2) || match prog.funcs[k]? with | some f => f.body.isSome && !(f.name == "runtime.NumGoroutine") | none => YZ) = true := by kernel_rfl
@[go_sem] theorem fr0(h:2<=k)(h2:k<185):sU prog k:=tc (by
 have:=V2.1 fb0 k (WH.2 h2);rw[Yg Yn]at this
 exact this)
theorem fb1 : (Ws 240).all (λk => Y0 (k < 186) || match prog.funcs[k]? with | some f => f.body.isSome && !(f.name == "runtime.NumGoroutine") | none => YZ) = true := by kernel_rfl
@[go_sem] theorem fr1(h:186<=k)(h2:k<240):sU prog k:=tc (by
 have:=V2.1 fb1 k (WH.2 h2);rw[Yg Yn]at this
 exact this)
theorem fb2 : (Ws 251).all (λk => Y0 (k < 241) || match prog.funcs[k]? with | some f => f.body.isSome && !(f.name == "runtime.NumGoroutine") | none => YZ) = true := by kernel_rfl
@[go_sem] theorem fr2(h:241<=k)(h2:k<251):sU prog k:=tc (by
 have:=V2.1 fb2 k (WH.2 h2);rw[Yg Yn]at this
 exact this)
theorem fb3 : (Ws 301).all (λk => Y0 (k < 255) || match prog.funcs[k]? with | some f => f.body.isSome && !(f.name == "runtime.NumGoroutine") | none => YZ) = true := by kernel_rfl
@[go_sem] theorem fr3(h:255<=k)(h2:k<301):sU prog k:=tc (by
 have:=V2.1 fb3 k (WH.2 h2);rw[Yg Yn]at this
 exact this)
theorem fb4 : (Ws 311).all (λk => Y0 (k < 302) || match prog.funcs[k]? with | some f => f.body.isSome && !(f.name == "runtime.NumGoroutine") | none => YZ) = true := by kernel_rfl
@[go_sem] theorem fr4(h:302<=k)(h2:k<311):sU prog k:=tc (by
 have:=V2.1 fb4 k (WH.2 h2);rw[Yg Yn]at this
 exact this)
theorem fb5 : (Ws 352).all (λk => Y0 (k < 320) || match prog.funcs[k]? with | some f => f.body.isSome && !(f.name == "runtime.NumGoroutine") | none => YZ) = true := by kernel_rfl
@[go_sem] theorem fr5(h:320<=k)(h2:k<352):sU prog k:=tc (by
 have:=V2.1 fb5 k (WH.2 h2);rw[Yg Yn]at this
 exact this)
theorem fb6 : (Ws 372).all (λk => Y0 (k < 353) || match prog.funcs[k]? with | some f => f.body.isSome && !(f.name == "runtime.NumGoroutine") | none => YZ) = true := by kernel_rfl
@[go_sem] theorem fr6(h:353<=k)(h2:k<372):sU prog k:=tc (by
 have:=V2.1 fb6 k (WH.2 h2);rw[Yg Yn]at this
 exact this)
theorem fb7 : (Ws 392).all (λk => Y0 (k < 373) || match prog.funcs[k]? with | some f => f.body.isSome && !(f.name == "runtime.NumGoroutine") | none => YZ) = true := by kernel_rfl
@[go_sem] theorem fr7(h:373<=k)(h2:k<392):sU prog k:=tc (by
 have:=V2.1 fb7 k (WH.2 h2);rw[Yg Yn]at this
 exact this)
/-! Zei the Qs Zi0 not go ZiX. -/
@[congr] theorem Zgk{P:Program}{K:List PV->Mem->Prop}{t:List PV}{t':List PV}{m:Mem}{m':Mem}(Ho:t=t')(yi:m=m'):sV P ops K rest t m=sV P ops K rest t' m':=by simp_all
@[congr] theorem ZeA{P:Program}{t:List PV}{t':List PV}{m:Mem}{m':Mem}(Ho:t=t')(yi:m=m')(h_g:g=g'):mg P wd base fl ops KD i rest g t m=mg P wd base fl ops KD i rest g' t' m':=by simp_all
@[congr] theorem ZgI{P:Program}{K:List PV->Mem->Prop}{t:List PV}{t':List PV}{m:Mem}{m':Mem}(Ho:t=t')(h_p:p=p')(yi:m=m'):nxt P ops K rest t d p m=nxt P ops K rest t' d p' m':=by simp_all
@[congr] theorem ZgG{P:Program}{t:List PV}{t':List PV}{m:Mem}{m':Mem}(Ho:t=t')(h_p:p=p')(yi:m=m')(h_g:g=g'):nxd P wd base fl ops KD i rest g t d p m=nxd P wd base fl ops KD i rest g' t' d p' m':=by simp_all
@[congr] theorem ZgQ{P:Program}{K:List PV->Mem->Prop}{m:Mem}{m':Mem}{t:List PV}{t':List PV}(yi:m=m')(Ho:t=t'):rgo P ops K rest d o m t=rgo P ops K rest d o m' t':=by simp_all
@[congr] theorem ZgM{P:Program}{K:List PV->Mem->Prop}{m:Mem}{m':Mem}{t:List PV}{t':List PV}(yi:m=m')(Ho:t=t'):pgo P ops K rest d m t=pgo P ops K rest d m' t':=by simp_all
@[congr] theorem ZgP{P:Program}{m:Mem}{m':Mem}{t:List PV}{t':List PV}(yi:m=m')(Ho:t=t'):rge P wd base fl ops KD i rest g oo m t=rge P wd base fl ops KD i rest g oo m' t':=by simp_all
@[congr] theorem ZgH{P:Program}{t t':List PV}{ρ:List Nat}{m m':Mem}(Ho:t=t')(h_p:p=p')(yi:m=m')(h_n:ν=ν'):nxe P wd base fl ops KD i rest g oo ν t ρ p m=nxe P wd base fl ops KD i rest g oo ν' t' ρ p' m':=by simp_all
@[congr] theorem Zgj{P:Program}{t t':List PV}{m m':Mem}{K:List Nat->PV->Mem->Prop}(h_n:ν=ν')(Ho:t=t')(yi:m=m'):Mp P wd ν o t m K=Mp P wd ν' o t' m' K:=by simp_all
@[congr] theorem ZgJ{P:Program}{f:FuncId}{m m':Mem}{K:List Nat->PV->Mem->Prop}(h_n:ν=ν')(h_p:ps=J2)(yi:m=m'):pIO P wd ν f ps m K=pIO P wd ν' f J2 m' K:=by simp_all
@[congr] theorem ZgO{P:Program}{m:Mem}{m':Mem}{t:List PV}{t':List PV}(yi:m=m')(Ho:t=t'):rgd P wd base fl ops KD i rest g oo m t=rgd P wd base fl ops KD i rest g oo m' t':=by simp_all
@[congr] theorem ZgL{P:Program}{m:Mem}{m':Mem}{t:List PV}{t':List PV}(yi:m=m')(Ho:t=t'):pgd P wd base fl ops KD i rest g oo m t=pgd P wd base fl ops KD i rest g oo m' t':=by simp_all
@[congr] theorem Zev{b':Bool}{t:List PV}{t':List PV}(h_b:b=b')(Ho:t=t'):tN b y n t i=tN b' y n t' i:=by simp_all
@[congr] theorem ZgF{t:List PV}{t':List PV}(h_p:p=p')(Ho:t=t'):gdV p i t b y n=gdV p' i t' b y n:=by simp_all
@[congr] theorem Zh9{t:List PV}{t':List PV}(Ho:t=t'):gd d t b y n=gd d t' b y n:=by simp_all
@[congr] theorem Zex{P:Program}{cs:Option (List PV)}{qy:Option (List PV)}{K:PV->Prop}(Zg3:cs=qy):rX P T cs K=rX P T qy K:=by simp_all
@[congr] theorem Zgc{P:Program}{y:PV}{K:PV->Prop}(Ns:x=x')(h_y:y=y'):JJ P op T x y K=JJ P op T x' y' K:=by simp_all
@[congr] theorem ZgK{op:UnOp}{K:PV->Prop}(Ns:x=x'):pUn op x K=pUn op x' K:=by simp_all
@[congr] theorem ZdY{P:Program}{m:Mem}{m':Mem}{U:TypeId}{K:PV->Prop}(yi:m=m')(Ns:x=x'):rS P m T U x K=rS P m' T U x' K:=by simp_all
@[congr] theorem Zd1{P:Program}{m:Mem}{m':Mem}{lo':Option PV}{nj:Option PV}{K:PV->Prop}(yi:m=m')(Ns:x=x')(ZiC:lo=lo')(ZiB:hi=nj):kY P m T x lo hi K=kY P m' T x' lo' nj K:=by simp_all
@[congr] theorem UJ{P:Program}{m:Mem}{m':Mem}{K:PV->Prop}(yi:m=m')(Ns:x=x'):kX P m T x i K=kX P m' T x' i K:=by simp_all
@[congr] theorem ZdZ{P:Program}{K:PV->Prop}(Ns:x=x'):vN P T x i K=vN P T x' i K:=by simp_all
@[congr] theorem UK{P:Program}{m:Mem}{m':Mem}{y:PV}{K:PV->Prop}(yi:m=m')(Ns:x=x')(h_y:y=y'):cR P m T x y K=cR P m' T x' y' K:=by simp_all
@[congr] theorem Zd0{P:Program}{y:PV}{K:PV->Prop}(Ns:x=x')(h_y:y=y'):sK P T x y K=sK P T x' y' K:=by simp_all
@[congr] theorem Zgf{K:PV->Prop}(Ns:x=x'):JM i x K=JM i x' K:=by simp_all
@[congr] theorem ZdX{P:Program}{ps:List (Nat×PV)}{J2:List (Nat×PV)}{K:PV->Prop}(VN:ps=J2):vM P T ps K=vM P T J2 K:=by simp_all
@[congr] theorem Zgg{P:Program}{m:Mem}{m':Mem}{K:PV->Prop}(yi:m=m')(Ns:x=x'):wO P m T x K=wO P m' T x' K:=by simp_all
@[congr] theorem ZcA{K:PV->Prop}(VN:ps=J2):qL b ps K=qL b J2 K:=by simp_all
@[congr] theorem Zgb{ov:Option Value}{ov':Option Value}{K:PV->Prop}(ZiD:ov=ov'):Gx ov K=Gx ov' K:=by simp_all
@[congr] theorem ZgE{P:Program}{qy:List PV}{ds':List PV}{K:PV->Prop}(Zg3:cs=qy)(ZiA:ds=ds'):u7 P op T cs ds K=u7 P op T qy ds' K:=by simp_all
@[congr] theorem Zgh{m:Mem}{m':Mem}{K:PV->Prop}(yi:m=m')(Ns:x=x'):Ek m x K=Ek m' x' K:=by simp_all
@[congr] theorem Zez{y:PV}{z:PV}{z':PV}{K:PV->Prop}(Ns:x=x')(h_y:y=y')(h_z:z=z'):E9 x y z K=E9 x' y' z' K:=by simp_all
@[congr] theorem Zew{P:Program}{f:FuncId}{m:Mem}{m':Mem}{KA:PV->Mem->Prop}(VN:ps=J2)(yi:m=m')(Pb:nu=E7):pH P io wd nu f ps m KA=pH P io wd E7 f J2 m' KA:=by simp_all
@[congr] theorem Zgd{m:Mem}{m':Mem}{ocs:Option (List PV)}{ZfM:Option (List PV)}{KA:PV->Mem->Prop}(Pb:nu=E7)(yi:m=m')(Zib:ocs=ZfM):Aa nu m T ocs KA=Aa E7 m' T ZfM KA:=by simp_all
@[congr] theorem RB{P:Program}{m:Mem}{m':Mem}{ps:List (Nat×PV)}{J2:List (Nat×PV)}{KA:PV->Mem->Prop}(Pb:nu=E7)(yi:m=m')(VN:ps=J2):na P nu m T k ps KA=na P E7 m' T k J2 KA:=by simp_all
@[congr] theorem Zey{P:Program}{m:Mem}{m':Mem}{y:PV}{KA:PV->Mem->Prop}(Pb:nu=E7)(yi:m=m')(Ns:x=x')(h_y:y=y'):vO P nu m T x y KA=vO P E7 m' T x' y' KA:=by simp_all
@[congr] theorem Zd2{P:Program}{m:Mem}{m':Mem}{y:PV}{KA:PV->Mem->Prop}(yi:m=m')(Ns:x=x')(h_y:y=y'):vP P m T x y KA=vP P m' T x' y' KA:=by simp_all
@[congr] theorem Zcz{P:Program}{m:Mem}{m':Mem}{y:PV}{KA:PV->Mem->Prop}(Pb:nu=E7)(yi:m=m')(Ns:x=x')(h_y:y=y'):gF P nu m T x y KA=gF P E7 m' T x' y' KA:=by simp_all
@[congr] theorem Zge{P:Program}{m:Mem}{m':Mem}{KA:PV->Mem->Prop}(Pb:nu=E7)(h_p:p=p')(VN:ps=J2)(yi:m=m'):ZaP P io wd nu p ps m KA=ZaP P io wd E7 p' J2 m' KA:=by simp_all
@[congr] theorem Zgi{P:Program}{t:List PV}{t':List PV}{m:Mem}{m':Mem}{KA:PV->Mem->Prop}(Pb:nu=E7)(Ho:t=t')(yi:m=m'):jj P io wd nu o t m KA=jj P io wd E7 o t' m' KA:=by simp_all
@[congr] theorem Zga{ZfO:List Oper}{K:List PV->Mem->Prop}{t:List PV}{t':List PV}{m:Mem}{m':Mem}(Ho:t=t')(yi:m=m'):O2 ZfO K g t m=O2 ZfO K g t' m':=by simp_all
@[congr] theorem ZgN{P:Program}{n0:Nat}{code:Code}{Q:Exit->List PV->Mem->Prop}{t:List PV}{t':List PV}{m:Mem}{m':Mem}(Ho:t=t')(yi:m=m'):qP P n0 code Q t m=qP P n0 code Q t' m':=by simp_all
@[congr] theorem ZeB{K:List PV->Mem->Prop}{Q:Exit->List PV->Mem->Prop}{e:Exit}{t:List PV}{t':List PV}{m:Mem}{m':Mem}(Ho:t=t')(yi:m=m')(h_e:e=e'):rO K Q e t m=rO K Q e' t' m':=by simp_all
@[congr] theorem ZdW{id:Nat}{Q:Exit->List PV->Mem->Prop}{e:Exit}{t:List PV}{t':List PV}{m:Mem}{m':Mem}(Ho:t=t')(yi:m=m')(h_e:e=e'):vm id Q e t m=vm id Q e' t' m':=by simp_all
class dD(α:Type) where
 c:α->List PV
instance :dD Int:=⟨aG⟩
instance :dD ByteArray:=⟨iU⟩
instance :dD Bool:=⟨Ck⟩
section
variable {P:Program} {n0:Nat} {Q:Exit->List PV->Mem->Prop} {t t':List PV} {m m':Mem} {K:List PV->Mem->Prop} {KR:PV->Prop} {KA:PV->Mem->Prop}
theorem Zgw{σ ο β:Type}{s:σ}{F:σ->Option β}{K:ο->Option β}{r:β}(h:(YW (Sum.inl s)).bind (bh F K)=YW r):F s=YW r:=h
theorem Zep{σ ο β:Type}{o:ο}{F:σ->Option β}{K:ο->Option β}:(YW (Sum.inr o)).bind (bh F K)=K o:=ek rfl
theorem bsr{α β γ δ:Type}{o:β}{F:α->Option γ}{G:β->Option γ}{K:γ->Option δ}:(bh F G (Sum.inr o)).bind K=(G o).bind K:=ek rfl
theorem bsl{α β γ δ:Type}{o:α}{F:α->Option γ}{G:β->Option γ}{K:γ->Option δ}:(bh F G (Sum.inl o)).bind K=(F o).bind K:=ek rfl
theorem Zea{G:Prop}{K:α->Option β}{r:β}(h:(cond b A B).bind K=YW r)(hb:b=YY)(k:A.bind K=YW r->G):G:=k (Hc1 h hb)
theorem Zeb{G:Prop}{K:α->Option β}{r:β}(h:(cond b A B).bind K=YW r)(hb:b=YZ)(k:B.bind K=YW r->G):G:=k (Hc2 h hb)
theorem ZeR{c:Bool}(h:tN c y n t i):tN c y n t i:=h
theorem Zhz{i:PV}(h:cR P m T (.sl es) i KR):cR P m T (.sl es) i KR:=h
def ZhI(n bytes:Int):Bool:=Y0 (0<=n/\n<=1099511627776/\bytes*n<=140737488355328)
theorem mkS{x y:PV}(h:vO P ν m T x y KA):vO P ν m T x y KA:=h
theorem Zdq{T e k ν:Nat}{n b:Int}(hok:ZhI n b=YY)(hu:P.underlying T=YW (.slice e))(hz:pz P e=YW zc)(hb:(P.bytesOf e:Int)=b)(hc:P.cellsOf e=k)(zj:zc.length=k)(hp:Y0 (0<k)=YY)(hK:KA (.ms ν) (oS m ν ⟨e,k,V8 n.toNat zc⟩)):vO P ν m T (vi n) (vi n) KA:=by
 subst hb hc;have tR:=Yh hok;simp only[vO,hu,hz]
 simp_all
theorem wo{ρ:Nat->Option Nat}:∀{cs:List PV},(∀q∈cs,sq q=YY)->rG ρ m m' cs cs
 | [],_=>trivial
 |c::cs,h=>⟨.c c (h c Wo),wo λq hq=>h q (Wl _ hq)⟩
theorem Im{α:Type}{f:α->List PV}[hf:dI f]{ρ:Nat->Option Nat}:∀{xs:List α},yb ρ m m' (xs.map f) (xs.map f)
 | []=>trivial
 |x::xs=>⟨wo (hf.h x),Im⟩
theorem tH{α:Type}{f:α->List PV}[hf:dI f]{ρ:Nat->Option Nat}{cs:List PV}{x:α}(h:rG ρ m m' cs (f x)):∀{xs:List α} {n:Nat},yb ρ m m' ((xs.map f).set n cs) ((xs.set n x).map f)
 | [],_=>trivial
 |y::ys,0=>⟨h,Im⟩
 |y::ys,n+1=>⟨wo (hf.h y),tH h⟩
theorem Cu{α:Type}{f:α->List PV}{ρ:Nat->Option Nat}{cs:List PV}{x:α}(h:rG ρ m m' cs (f x)):∀{n:Nat},yb ρ m m' (V8 n cs) ((V8 n x).map f)
 |0=>trivial
 |n+1=>⟨h,Cu h⟩
theorem wm{α:Type}{f:α->List PV}[hf:dI f]{ρ:Nat->Option Nat}{cs:List PV}{x:α}(h:rG ρ m m' cs (f x)):∀{xs:List α},yb ρ m m' (xs.map f++[cs]) ((xs++[x]).map f)
 | []=>⟨h,trivial⟩
 |y::ys=>⟨wo (hf.h y),wm h⟩
theorem Ij[dI f]{T k n:Nat}{x:α}{xs:List α}(h:rG ρ m m' cs (f x)):vp ρ m m' ⟨T,k,(xs.map f).set n cs⟩ ⟨T,k,(xs.set n x).map f⟩:=⟨⟨rfl,rfl,.inr (tH h)⟩,λ_ _=>Cv rfl⟩
theorem RL{T k n:Nat}{x:α}(h:rG ρ m m' cs (f x)):vp ρ m m' ⟨T,k,V8 n cs⟩ ⟨T,k,(V8 n x).map f⟩:=⟨⟨rfl,rfl,.inr (Cu h)⟩,λ_ _=>Cv rfl⟩
theorem ZcE{T k:Nat}(h:yb ρ m m' es tC):vp ρ m m' ⟨T,k,es⟩ ⟨T,k,tC⟩:=⟨⟨rfl,rfl,.inr h⟩,λ_ _=>Cv rfl⟩
theorem ZcG:yb ρ m m' [] []:=trivial
theorem ZcF(h:rG ρ m m' cs ds)(h':yb ρ m m' es tC):yb ρ m m' (cs::es) (ds::tC):=⟨h,h'⟩
theorem RI{T:TK}:vp ρ m m' ⟨T,k,[]⟩ ⟨T,k,[]⟩:=⟨⟨rfl,rfl,.inr trivial⟩,λ_ _=>EE⟩
theorem RM{T k:Nat}{a b c d:List PV}(h:yb ρ m m' (a::b::es) (c::d::tC)):vp ρ m m' ⟨T,k,a::b::es⟩ ⟨T,k,c::d::tC⟩:=ZcE h
theorem OU[dI f]{T k:Nat}{x:α}{xs:List α}(h:rG ρ m m' cs (f x)):vp ρ m m' ⟨T,k,xs.map f++[cs]⟩ ⟨T,k,(xs++[x]).map f⟩:=⟨⟨rfl,rfl,.inr (wm h)⟩,λ_ _=>Cv rfl⟩
/-! Keyed rows. -/
def Gs:Nat->List PV->Option (Nat×Nat)
 |_,[]=>YX
 |j,.ms l::cs=>if cs.all Gu=YY then YW (l,j)else YX
 |_,.ss ..::_=>YX
 |j,_::cs=>Gs (j+1) cs
theorem Th{o l j:Nat}(h:Gs o cs=YW (l,j)):∃j0,j=o+j0/\cs[j0]?=YW (.ms l)/\∀(i:Nat) (p:PV),cs[i]?=YW p->i=j0\/Gu p=true:=by
 induction cs generalizing o with
 |nil=>cases h
 |cons p cs ih=>
  cases p with
  |ms k=>
   simp only[Gs]at h
   split at h
   ·rename_i hc
    simp only[V6,Prod.mk.injEq]at h
    obtain⟨rfl,rfl⟩:=h
    grind
   grind
  |ss a b c=>simp[Gs]at h
  |_=>
   have h':Gs (o+1) cs=YW (l,j):=h;obtain⟨j0,e,h1,h2⟩:=ih h';refine⟨j0+1,Yn,by simpa using h1,λi q hq=>?_⟩
   cases i with
   |zero=>
    right;simp only[List.getElem?_cons_zero,V6]at hq
    subst hq;rfl
   |succ i=>
    rcases h2 i q (by simpa using hq)with h|h
    ·left;omega
    ·exact .inr h
theorem Gv(h:sq p=YY):Gu p=true:=by
 cases p with
 |ms=>cases h
 |ss=>cases h
 |_=>rfl
def Jf(mb:MB):Prop:=mb.T.kd.isSome=YY/\∃cs∈mb.es,∃p∈cs,Gu p=YZ
def kd0(m:Mem):Prop:=∀(l:Nat) (mb:MB),m[l]?=YW (YW mb)->¬Jf mb
def kd1(m:Mem):Prop:=∀(l l':Nat) (mb nH:MB),m[l]?=YW (YW mb)->m[l']?=YW (YW nH)->Jf mb->Jf nH->l=l'
theorem Zao:kd0 []:=λ_ _ h=>by simp at h
theorem Zap:kd1 []:=λ_ _ _ _ h=>by simp at h
theorem SZ{x:Option MB}{m:Mem}(hx:∀mb,x=YW mb->¬Jf mb)(h:kd0 m):kd0 (x::m):=λl mb hl=>by
 cases l with
 |zero=>simp_all
 |succ l=>exact h l mb Yv
theorem Zfz{x:Option MB}{m:Mem}(h:kd0 m):kd1 (x::m):=λl l' mb nH h1 h2 a1 a2=>by
 cases l with
 |zero=>
  cases l' with
  |zero=>rfl
  |succ l'=>exact absurd a2 (h l' nH Yv)
 |succ l=>exact absurd a1 (h l mb Yv)
theorem S1{x:Option MB}{m:Mem}(hx:∀mb,x=YW mb->¬Jf mb)(h:kd1 m):kd1 (x::m):=λl l' mb nH h1 h2 a1 a2=>by
 cases l with
 |zero=>simp_all
 |succ l=>
  cases l' with
  |zero=>simp_all
  |succ l'=>exact congrArg Nat.succ (h l l' mb nH Yv Yv a1 a2)
theorem M1:∀mb,(YX:Option MB)=YW mb->¬Jf mb:=λ_ h=>by cases h
theorem ZbV{t:TypeId}:∀mb,YW (⟨TK.of t,k,es⟩:MB)=YW mb->¬Jf mb:=λmb h a=>by
 cases h
 exact absurd a.1 Yq
theorem Ri[hf:dI f]{T:TK}{xs:List α}:∀mb,YW (⟨T,k,xs.map f⟩:MB)=YW mb->¬Jf mb:=λmb h ⟨_,cs,so,p,hp,hn⟩=>by
 cases h
 obtain⟨x,_,rfl⟩:=WI.1 so;rw[Gv (hf.h x p hp)]at hn
 grind
theorem k1{p:Prop}(h:p:=by(repeat(first|exact Zao|exact Zap|(with_reducible refine S1 M1 ?_) |(refine S1 ZbV ?_) |(refine S1 Ri ?_) |(with_reducible refine SZ M1 ?_) |(refine SZ ZbV ?_) |(refine SZ Ri ?_) |(refine Zfz ?_)));(first|done|fail)):p:=h
theorem Nh{t t':TypeId}{n l j:Nat}(h:yb ρ m m' es tC)(hn:es[n]?=YW cs)(ho:∀(i:Nat) (ds:List PV),es[i]?=YW ds->i≠n->∀p∈ds,Gu p=YY)
 (hm:Gs 0 cs=YW (l,j)) (h1:kd1 m) {k2:Nat} (hl:look m l=YW ⟨T2,k2,es2⟩) (ht:T2.t=t') {k0:Nat} (BB:m[k0]?=YW (YW ⟨⟨t,YW t'⟩,k,es⟩)):OX ρ m m' ⟨⟨t,YW t'⟩,k,es⟩ ⟨⟨t,YW t'⟩,k',tC⟩:=by
 obtain⟨j0,ej,g1,g2⟩:=Th hm;rw[Wc]at ej
 subst ej;intro T1 hT i ds j1 e hi hj gZ;have hT':YW t'=YW T1:=hT;obtain⟨Vn,c1,c2⟩:=(sC h).2 i ds hi;obtain⟨p,p1,p2⟩:=(tI c2).2 j1 _ hj
 by_cases hms:Gu p=YY
 ·have:=Ng p2 hms gZ
  simp_all
 ·right
  have vz:i=n:=by
   rcases Nat.decEq i n with h|h
   ·exact absurd (ho i Vn c1 h p (VW p1)) hms
   omega
  subst vz;rw[hn]at c1
  obtain rfl:=VX c1;have hj1:j1=j:=by
   grind
  subst hj1;rw[g1]at p1
  obtain rfl:=VX p1;have Zhr:∀q',Zco m l q'->q'=(t,i,j1):=by
   rintro q' ⟨l',nH,T',i',qy,j',a1,a2,a3,a4,rfl⟩;have e:l'=k0:=h1 l' k0 nH _ a1 BB ⟨by grind,_,VW a3,_,VW a4,rfl⟩ ⟨rfl,_,VW hn,_,VW g1,rfl⟩
   subst e;rw[BB]at a1
   obtain rfl:(⟨⟨t,YW t'⟩,k,es⟩:MB)=nH:=by simp_all
   have nj:i'=i:=by
    rcases Nat.decEq i' i with h|h
    ·have:=ho i' qy a3 h _ (VW a4);grind
    omega
   grind
  generalize hq:PV.sl e=q at p2
  cases p2 with
  |fms _ mk AE hc hd=>
   have:=jt.1 hl;rw[AE]at this
   obtain rfl:mk=⟨T2,k2,es2⟩:=by simp_all
   refine⟨_,l,_,hn,g1,⟨⟨k0,_,t',i,_,j1,BB,rfl,hn,g1,rfl⟩,Zhr⟩,AE,?_,?_,hd⟩
   all_goals simp_all
  |un=>grind
  |c _ h=>cases h
  |ms=>grind
theorem Li[hf:dI f]{t t':TypeId}{k l j k2:Nat}{x:α}{xs:List α}(hm:Gs 0 cs=YW (l,j))(h1:kd1 m)(hl:look m l=YW ⟨T2,k2,es2⟩)(ht:T2.t=t')(h:rG ρ m m' cs (f x)):
 vp ρ m m' ⟨⟨t,YW t'⟩,k,xs.map f++[cs]⟩ ⟨⟨t,YW t'⟩,k,(xs++[x]).map f⟩:=by
 refine⟨⟨rfl,rfl,.inr (wm h)⟩,λk0 BB=>Nh (n:=xs.length) (cs:=cs) (wm h) Yq (λi ds hi gZ p hp=>?_) hm h1 hl ht BB⟩
 rcases Wv i xs.length with bX|ze
 ·rw[Wu Yv,Wk]at hi
  obtain⟨y,_,rfl⟩:=Option.map_eq_some_iff.1 hi;exact Gv (hf.h y p hp)
 grind
theorem ED[hf:dI f]{t t':TypeId}{k l j k2 n:Nat}{x:α}{xs:List α}(hn:n<xs.length)(hm:Gs 0 cs=YW (l,j))(h1:kd1 m)(hl:look m l=YW ⟨T2,k2,es2⟩)(ht:T2.t=t')(h:rG ρ m m' cs (f x)):
 vp ρ m m' ⟨⟨t,YW t'⟩,k,(xs.map f).set n cs⟩ ⟨⟨t,YW t'⟩,k,(xs.set n x).map f⟩:=by
 refine⟨⟨rfl,rfl,.inr (tH h)⟩,λk0 BB=>Nh (n:=n) (cs:=cs) (tH h) (List.getElem?_set_self Yv) (λi ds hi gZ p hp=>?_) hm h1 hl ht BB⟩
 rw[List.getElem?_set_ne (Ne.symm gZ),Wk]at hi
 obtain⟨y,_,rfl⟩:=Option.map_eq_some_iff.1 hi;exact Gv (hf.h y p hp)
theorem OT[hf:dI f]{T:TK}{k n:Nat}{x:α}{xs:List α}(hn:cs.all Gu=YY)(h:rG ρ m m' cs (f x)):vp ρ m m' ⟨T,k,(xs.map f).set n cs⟩ ⟨T,k,(xs.set n x).map f⟩:=by
 refine⟨⟨rfl,rfl,.inr (tH h)⟩,λ_ _=>ZcH (tH h) λds hds p hp=>?_⟩
 rcases List.mem_or_eq_of_mem_set hds with hds|rfl
 ·obtain⟨y,_,rfl⟩:=WI.1 hds
  exact Gv (hf.h y p hp)
 simp_all
theorem Zhy{i:PV}(h:cR P m T (.ms l) i KR):cR P m T (.ms l) i KR:=h
theorem Zag[dD α]{xs:List α}{x:α}{T':TK}{i:Int}{k:IntKind}(h:aB xs i=YW x)(hm:look m l=YW ⟨T',k',xs.map dD.c⟩)(hp:0<ke P T)(hk:k'=ke P T)(hK:KR (.be l i.toNat 0)):cR P m T (.ms l) (.v (.int k i)) KR:=Zdi h hm hp hk hK
theorem zM{xs:List α}{x:α}{i:Int}(h:aB xs i=YW x):(xs.map f)[i.toNat]?=YW (f x):=by
 rw[Wk,(nY h).2];rfl
theorem QD[dD α]{xs:List α}{l h:Int}(hok:fJ l h xs.length=YY)(hm:look m r=YW ⟨T',k,xs.map dD.c⟩)(Ss:GB lo 0=YW l)(hhi:GB hi xs.length=YW h)(hp:0<ke P T)(hk:k=ke P T)(hK:KR (.ss r l.toNat h.toNat)):kY P m T (.ms r) lo hi KR:=by
 obtain⟨e,hu,he⟩:=tK hp;rw[he]at hp hk
 have tR:=Yh hok;simp only[kY,hu,mF,hm,Wj,Ss,hhi]
 simp_all
theorem ZdN[dD α]{xs:List α}{a b:Int}(hm:look m r=YW ⟨T',k,xs.map dD.c⟩):pL m (.ss r a.toNat b.toNat)=YW ((cM xs a b).map dD.c):=by
 have h:=jt.1 hm;simp only[pL,h,yd,yZ,cM]
theorem ZbA[dD α]{xs:List α}{r k A B:Nat}{a b:Int}(hm:look m r=YW ⟨T',k,xs.map dD.c⟩)(hA:A=a.toNat)(hB:B=b.toNat):pL m (.ss r A B)=YW ((cM xs a b).map dD.c):=by subst hA hB;exact ZdN hm
theorem ZeP(h:cs.all sq=YY):qR YZ (.ag cs):=λc hc=>tP (V2.1 h c hc)
theorem ZcT(h:cs.all Jg=YY):qR YY (.ag cs):=λc hc=>CI (V2.1 h c hc)
theorem ZeQ(h:ps.all Pv=YY):qR YZ (.tu ps):=λc hc=>(yq (σ:=id) (V2.1 h c hc)).2.1
theorem Zhx{s:ByteArray}{i:PV}(h:sK P T (.v (.string s)) i KR):sK P T (.v (.string s)) i KR:=h
theorem ZhZ(h:kY P m T x lo hi KR):kY P m T x lo hi KR:=h
theorem Zgz{x y:PV}(h:gF P ν m T x y KA):gF P ν m T x y KA:=h
theorem Zes{f:FuncId}(h:pH P io wd ν f ps m KA):pH P io wd ν f ps m KA:=h
theorem ZhM{o:Option Value}(h:Gx o KR):Gx o KR:=h
theorem ZfC{c:Code}(h:qP P n0 (.loop c) Q t m):qP P n0 (.loop c) Q t m:=h
theorem ZgU(h:rD n0 t m t' m'):rD n0 t m t' m':=h
theorem all_nil{p:α->Prop}:(∀x∈([]:List α),p x)=True:=by simp
theorem all_cons{p:α->Prop}{a:α}{as_:List α}:(∀x∈a::as_,p x)=(p a/\∀x∈as_,p x):=by simp
theorem ZdE:KW m (.rp cs)=YW cs:=ek rfl
theorem U5[dD α]{xs ys:List α}{ν l e k n b:Nat}(hok:bn (xs.length+ys.length) b=YY)(hu:P.underlying T=YW (.slice e))(hz:pz P e=YW zc)(hb:P.bytesOf e=b)(hc:P.cellsOf e=n)(hl:look m l=YW ⟨e,k,xs.map dD.c⟩)(xk:pL m x=YW (ys.map dD.c))
 (zj:zc.length=n) (hp:Y0 (0<n)=YY) (hf:∀x:α,(dD.c x).length=n) (hk:k=n) (hK:KA (.ms ν) (oS (m.set l YX) ν ⟨e,k,(xs++ys).map dD.c⟩)):gF P ν m T (.ms l) x KA:=by
 subst hb hc;exact Zcw hok hu hz xk hl zj (Yh hp) hf hk hK
theorem U4[dD α]{xs ys:List α}{ν l e k n b t':Nat}(hok:bn (xs.length+ys.length) b=YY)(hy:ys.length=1)(hu:P.underlying T=YW (.slice e))(hz:pz P e=YW zc)(hb:P.bytesOf e=b)(hc:P.cellsOf e=n)(hl:look m l=YW ⟨⟨e,YW t'⟩,k,xs.map dD.c⟩)(xk:pL m x=YW [cs])
 (u0:cs.all PS=YY) (uo:cs.length=n) (zj:zc.length=n) (hp:Y0 (0<n)=YY) (hk:k=n) (hK:KA (.ms ν) (oS (m.set l YX) ν ⟨⟨e,YW t'⟩,k,xs.map dD.c++[cs]⟩)):gF P ν m T (.ms l) x KA:=by
 subst hk;subst hb;have tR:=Yh hok;rw[hy]at tR
 simp only[gF,hu,hz,xk,mF,hl,Wj,V0,V1,hc];refine⟨zj,Yh hp,λds hds=>?_,trivial,trivial,tR.1,tR.2,?_⟩
 ·simp_all
 ·have e:(⟨e,YW t'⟩:TK).QZ [cs]=⟨e,YW t'⟩:=by
   unfold TK.QZ TK.stb
   simp_all
  simp_all
theorem U7[dD α]{ys:List α}{ν e n b:Nat}(hok:bn ys.length b=YY)(hu:P.underlying T=YW (.slice e))(hz:pz P e=YW zc)(hb:P.bytesOf e=b)(hc:P.cellsOf e=n)(xk:pL m x=YW (ys.map dD.c))
 (zj:zc.length=n) (hp:Y0 (0<n)=YY) (hf:∀x:α,(dD.c x).length=n) (hK:KA (.ms ν) (oS m ν ⟨e,n,ys.map dD.c⟩)):gF P ν m T (.v (.slice YX 0 0)) x KA:=by
 subst hb hc;exact Zcx hok hu hz xk zj (Yh hp) hf hK
theorem Su:∀mb,YW mb∈([]:Mem)->∀cs∈mb.es,∀p∈cs,eK b p:=by simp
theorem Gd[dI f]{T:TK}{xs:List α}:∀mb,YW mb∈([YW ⟨T,k,xs.map f⟩]:Mem)->∀cs∈mb.es,∀p∈cs,eK YZ p:=by
 intro mb h;simp only[Wh,V6]at h
 subst h;exact of_eq_true O9
theorem BC[qQ f]{T:TK}{xs:List α}:∀mb,YW mb∈([YW ⟨T,k,xs.map f⟩]:Mem)->∀cs∈mb.es,∀p∈cs,eK YY p:=by
 intro mb h;simp only[Wh,V6]at h
 subst h;exact of_eq_true Pa
theorem Pj{x:Option MB}{m:Mem}(h1:∀mb,YW mb∈([x]:Mem)->∀cs∈mb.es,∀p∈cs,eK b p)(h2:∀mb,YW mb∈m->∀cs∈mb.es,∀p∈cs,eK b p):∀mb,YW mb∈(x::m)->∀cs∈mb.es,∀p∈cs,eK b p:=by
 grind
end
theorem Zf3{n:Nat}{qs:List PV}:(TK.of n).st qs=TK.of n:=ek rfl
theorem Zf2{t t':TypeId}{x:Value}:(TK.mk t (YW t')).st [.v x]=TK.mk t (YW t'):=ek rfl
theorem ZdO{n:Nat}:(TK.of n).QZ es=TK.of n:=ek rfl
attribute [go_sem] Zf3 Zf2 ZdO U_z U_s ZdE Zf0 ZfZ Sc Sb ZfR ZfQ ZfP NP M6 Zbg Za3 Sa R9 TJ Za5 Za4 NM Qa TI TH Zbe Zbf NO SP Pu P9 Za2 VI VH ZcX ZcW ZcY Qf Qe Np VD IC VF ZcP VE R4 P6 J0 ZaS ZaR P7 P5 En Mi P8 GR Mn Dq Mk Dr Ml GS Mj Em TD TF TE Mh TA Bj Ds Mo JZ P4 TC PW ZdD Tb Ta Zds Zdr ZaD ZaE Zdu Zdt ZdM ZdK ZdL ZdC ZdB Zcj Zcl Zck Fk Qo Mv Kf EZ yd yZ JJ Vc pUn kX vN JM wO qL rX D7 Aa pc vP Ek sg rq DV FC Ar Ch Option.bind_some Wj if_true if_false Bool.false_eq_true XI List.map_nil List.toList_toArray beq_self_eq_true ite_self Int.toNat_natCast true_and and_true V1 List.nil_append List.append_nil Wc List.drop_zero List.drop_succ_cons List.take_zero WU V0 XZ Option.map_some List.replicate_zero Bool.not_true Bool.not_false yN yM sa u6 jQ nb E9 Di rS GB Option.map_none vM wS na chunk w9 all_cons all_nil Nat.zero_lt_succ Nat.lt_add_one and_self
end Go.Proofs.YtdilaemengjipaaGreatDoor
