/- A part of the proof of the statement in the last file of this claim: texts on the language of the program and on its functions. No condition. -/
import Derived.Test.YtdilaemengjipaaGreatDoorCA2
import Derived.Test.YtdilaemengjipaaGreatDoorCA1
import Derived.ProofKit
import Derived.Deep.Slices
import Derived.Deep.Fields
import Derived.ChangeOld
import Derived.ChangeSame
import Derived.Test.YtdilaemengjipaaGreatDoorProg
set_option linter.unusedVariables false
set_option linter.unusedSimpArgs false
set_option linter.unusedSectionVars false
open Go.Value renaming int->YM
open Go.IntKind renaming i64->YN
open Go renaming undef->YO
open Option renaming some->YH,none->YI
open Bool renaming true->YJ,false->YK
open Decidable renaming decide->YL
open Go.Proofs.Tryz
open List renaming mem_of_getElem?->VV,getElem?_eq_some_iff->VT,replicate->V7,getElem?_append_left->Wt,map_congr_left->Wy,map_cons->WX,mem_cons_of_mem->Wk,mem_cons_self->Wp,all_eq_true->V2,mem_map->WE,length_map->Wo,ofFn->Xq,getElem?_eq_getElem->VU,range->Wg,mem_range->WC,getElem?_map->Wj,length_cons->VZ,length_nil->VY,mem_singleton->Wf
open Classical renaming axiomOfChoice->W8
open Nat renaming add_assoc->XG,zero_le->Wu,lt_or_ge->Wv,zero_add->We
open _root_.Array renaming replicate->WV,getD_eq_getD_getElem?->Ww
open Option.some renaming injEq->V4,inj->VW
open Bool renaming and_eq_true->V6
namespace Go.Proofs.YtdilaemengjipaaGreatDoor
set_option maxRecDepth 10000
open Go.RowKit
variable {T T':TypeId}{Ts:Array TypeId}{a:Option Addr}{c:Code}{cs ds ps zc:List PV}{fn:Func}{hi lo:Option PV}{id k k' l n:Nat}{m1 mm:Mem}{mb nv:MB}{oo:Oper}{p r:PV}{rr rs:List (Option Nat)}{s:ByteArray}{v:Value}{x y:Operand}
def dropped(ρ:Nat->Option Nat)(m':Mem)(k:Nat):Prop:=∀l,sW m' l=YJ->ρ l≠YH k
def Zak(es:List (List PV)):Prop:=∀cs∈es,∀q∈cs,r9 q=YJ
inductive oK(ρ:Nat->Option Nat)(m m':Mem):PV->PV->Prop
 |un (p:PV):oK ρ m m' p .un
 |c (p:PV) (h:r9 p=YJ):oK ρ m m' p p
 |ms (l k:Nat) (h:ρ l=YH k) (hl:l<m'.length):oK ρ m m' (.ms k) (.ms l)
 |ss (l k a b:Nat) (h:ρ l=YH k) (hl:l<m'.length):oK ρ m m' (.ss k a b) (.ss l a b)
 |be (l k i o:Nat) (h:ρ l=YH k) (hl:l<m'.length):oK ρ m m' (.be k i o) (.be l i o)
 |Zbc (l:Nat) (h:ρ l=YI) (hl:l<m'.length):oK ρ m m' (.v (.slice YI 0 0)) (.ms l)
 |MQ (c:Nat):oK ρ m m' (.v (.slice YI 0 c)) (.sl [])
 |fms (k:Nat) (mb:MB) (hm:m[k]?=YH (YH mb)) (hc:Zak mb.es) (hd:dropped ρ m' k):oK ρ m m' (.ms k) (.sl mb.es)
 |fss (k a b:Nat) (mb:MB) (hm:m[k]?=YH (YH mb)) (hc:Zak mb.es) (hd:dropped ρ m' k):oK ρ m m' (.ss k a b) (.sl ((mb.es.drop a).take (b-a)))
 |fbe (k i o:Nat) (mb:MB) (cs:List PV) (hm:m[k]?=YH (YH mb)) (hi:mb.es[i]?=YH cs) (hc:∀q∈cs,r9 q=YJ) (hd:dropped ρ m' k):oK ρ m m' (.be k i o) (.rp (cs.drop o))
 |fn (f:FuncId) (cs ds:List PV) (hl:ds.length=cs.length) (h:∀(j:Nat) (p r:PV),cs[j]?=YH p->ds[j]?=YH r->oK ρ m m' p r):oK ρ m m' (.fn f cs) (.fn f ds)
def ry(ρ:Nat->Option Nat)(m m':Mem):List PV->List PV->Prop
 | [],[]=>True
 |p::ps,r::rs=>oK ρ m m' p r/\ry ρ m m' ps rs
 |_,_=>False
inductive Fb(ρ:Nat->Option Nat)(m m':Mem):PV->PV->Prop
 |c {p r:PV} (h:oK ρ m m' p r):Fb ρ m m' p r
 |ag (cs ds:List PV) (h:ry ρ m m' cs ds):Fb ρ m m' (.ag cs) (.ag ds)
def BM(ρ:Nat->Option Nat)(m m':Mem):List PV->List PV->Prop
 | [],[]=>True
 |p::ps,r::rs=>Fb ρ m m' p r/\BM ρ m m' ps rs
 |_,_=>False
inductive Dm(ρ:Nat->Option Nat)(m m':Mem):PV->PV->Prop
 |a {p r:PV} (h:Fb ρ m m' p r):Dm ρ m m' p r
 |tu (cs ds:List PV) (h:BM ρ m m' cs ds):Dm ρ m m' (.tu cs) (.tu ds)
def Dr(ρ:Nat->Option Nat)(m m':Mem):List PV->List PV->Prop
 | [],[]=>True
 |p::ps,r::rs=>Dm ρ m m' p r/\Dr ρ m m' ps rs
 |_,_=>False
def xM(ρ:Nat->Option Nat)(m m':Mem):List (List PV)->List (List PV)->Prop
 | [],[]=>True
 |p::ps,r::rs=>ry ρ m m' p r/\xM ρ m m' ps rs
 |_,_=>False
def Zdz(ρ:Nat->Option Nat)(m m':Mem)(mb nv:MB):Prop:=
 nv.T.t=mb.T.t/\nv.k=mb.k/\((nv.es=mb.es/\Zak mb.es)\/xM ρ m m' mb.es nv.es)
def Zbk(m:Mem)(k:Nat)(q:Key):Prop:=∃(l:Nat) (mb:MB) (T:TypeId) (i:Nat) (cs:List PV) (j:Nat),m[l]?=YH (YH mb)/\mb.T.kd=YH T/\mb.es[i]?=YH cs/\cs[j]?=YH (PV.ms k)/\q=(mb.T.t,i,j)
def AdU(m:Mem)(k:Nat)(q:Key):Prop:=Zbk m k q/\∀q',Zbk m k q'->q'=q
def NV(ρ:Nat->Option Nat)(m m':Mem)(mb nv:MB):Prop:=
 ∀T,nv.T.kd=YH T->∀(i:Nat) (ds:List PV) (j:Nat) (es:List (List PV)),nv.es[i]?=YH ds->ds[j]?=YH (.sl es)->es≠[]->
  (mb.T.kd=YH T/\∃cs,mb.es[i]?=YH cs/\cs[j]?=YH (.sl es))\/
  ∃cs k mk,mb.es[i]?=YH cs/\cs[j]?=YH (.ms k)/\AdU m k (mb.T.t,i,j)/\m[k]?=YH (YH mk)/\mk.T.t=T/\mk.es=es/\dropped ρ m' k
structure Zc4(n0:Nat)(ρ:Nat->Option Nat)(m m':Mem):Prop where
 row:∀l nv,m'[l]?=YH (YH nv)->(∃k mb,ρ l=YH k/\m[k]?=YH (YH mb)/\Zdz ρ m m' mb nv/\NV ρ m m' mb nv)\/(ρ l=YI/\nv.es=[]/\0<nv.k)
 inj:∀l l' k,sW m' l=YJ->sW m' l'=YJ->ρ l=YH k->ρ l'=YH k->l=l'
 low:∀l,l<n0->sW m' l=YJ->ρ l=YH l
 n0:n0<=m'.length
def Cut(n0:Nat)(t:List PV)(m:Mem)(t':List PV)(m':Mem):Prop:=∃ρ:Nat->Option Nat,Dr ρ m m' t t'/\Zc4 n0 ρ m m'
inductive ru(n0:Nat):List PV->Mem->List PV->Mem->Prop
 |one {t m t' m'} (h:Cut n0 t m t' m'):ru n0 t m t' m'
 |two {t m t1 m1 t' m'} (h:Cut n0 t m t1 m1) (h':ru n0 t1 m1 t' m'):ru n0 t m t' m'
def rE(K:List PV->Mem->Prop)(Q:Exit->List PV->Mem->Prop):Exit->List PV->Mem->Prop
 |.normal,t,m=>K t m
 |e,t,m=>Q e t m
def uZ(id:Nat)(Q:Exit->List PV->Mem->Prop):Exit->List PV->Mem->Prop
 |.exit i,t,m=>if i=id then Q .normal t m else Q (.exit i) t m
 |e,t,m=>Q e t m
def ZcD(P:Program)(draw:Bool)(ops:Array Oper)(K:List PV->Mem->Prop)(t:List PV)(m:Mem):Prop:=
 match draw with
 |false=>sP P ops K ops.toList t m
 |true=>P.follows .mixedOrders=YJ/\∃wd fl,0<wd/\lY P wd m.length fl ops (λg t m=>Kj ops.toList g=YJ/\K t m) 0 ops.toList [] t m
def qI(P:Program)(n0:Nat):Code->(Exit->List PV->Mem->Prop)->List PV->Mem->Prop
 |.skip,Q,t,m=>Q .normal t m
 |.seq a b,Q,t,m=>qI P n0 a (rE (λt m=>qI P n0 b Q t m) Q) t m
 |.cond c x y,Q,t,m=>match gh t c with
  |.v (.bool b)=>if b=YJ then qI P n0 x Q t m else qI P n0 y Q t m
  |_=>False
 |.block id c,Q,t,m=>qI P n0 c (uZ id Q) t m
 |.loop c,Q,t,m=>∃(I:Nat->List PV->Mem->Prop) (n:Nat) (t0:List PV) (m0:Mem),ru n0 t m t0 m0/\I n t0 m0/\∀n t m,I n t m->qI P n0 c (rE (λt m=>∃k t' m',k<n/\ru n0 t m t' m'/\I k t' m') Q) t m
 |.exit i,Q,t,m=>Q (.exit i) t m
 |.ret,Q,t,m=>Q .ret t m
 |.region _ ops draw,Q,t,m=>ZcD P draw ops (Q .normal) t m\/∃t1 m1,ru n0 t m t1 m1/\ZcD P draw ops (Q .normal) t1 m1
 |_,_,_,_=>False
structure Fr where
 w0:World
 O:Nat->Prop
 β0:Nat->Option qm
 n0:Nat
 S0:Nat->Prop
 P1:Nat->Key->Prop
def rv(F:Fr)(t:List PV)(m:Mem)(a:Act)(w:World):Prop:=
 ∃E,Ok F.w0 F.O E w m/\(∀b,F.S0 b->E.S b)/\SBd F.S0 F.P1 F.w0 F.O E/\(∀l B,l<F.n0->E.β l=YH B->F.β0 l=YH B)/\(∀l,l<F.n0->E.used l)/\a.defers=[]/\rG w E t a.tmps
section
variable {w:World} {O:Nat->Prop} {E:Env} {w0:World} {m m':Mem} {P:Program} {ρ:Nat->Option Nat} {n0:Nat} {F:Fr}
def sq(E:Env)(m:Mem)(ρ:Nat->Option Nat)(m':Mem):Env:=
 { S:=λb=>E.S b\/∃k B,E.β k=YH B/\B.z=YK/\B.b=b/\dropped ρ m' k
   β:=λl=>match m'[l]? with
    |some (YH nv)=>match ρ l with
     |some k=>E.β k
     |none=>YH ⟨0,0,0,nv.k,nv.T.t,YJ⟩
    |_=>YI
   used:=λl=>l<m'.length
   ω:=λb q=>E.ω b q\/∃k B,E.β k=YH B/\B.z=YK/\B.b=b/\dropped ρ m' k/\AdU m k q}
theorem jU{B:qm}(h:(sq E m ρ m').β l=YH B):sW m' l=YJ/\((∃k,ρ l=YH k/\E.β k=YH B)\/(ρ l=YI/\B.z=YJ)):=by
 simp only[sq]at h
 split at h
 ·rename_i nv hm
  refine⟨tK.2 ⟨nv,hm⟩,?_⟩
  grind
 grind
theorem NU{B:qm}(hB:(sq E m ρ m').β l=YH B)(hn:ρ l=YI):B.sv=.slice YI 0 0:=by
 rcases(jU hB).2 with⟨k,h,_⟩ |⟨_,h⟩
 ·grind
 ·simp[qm.sv,h]
theorem BN(hk:Ok w0 O E w m)(h:oK ρ m m' p r):∀{x:Value},dE w E p x->dE w (sq E m ρ m') r x:=by
 induction h with
 |un p=>intro x hx;exact .un' x
 |c p h=>intro x hx;exact .c ((hx.toC h).all λb hb=>.inl hb)
 |ms l k h hl=>
  intro x hx
  cases hx with
  |c h=>cases h
  |ms _ _ _ h1 h2=>
   refine .ms _ _ hl h1 λB hB=>?_
   rcases(jU hB).2 with⟨k',e,nB⟩ |⟨e,_⟩
   all_goals grind
 |ss l k a b h hl=>
  intro x hx
  cases hx with
  |c h=>cases h
  |ss _ _ _ _ _ h1 h2=>
   refine .ss _ _ _ _ hl h1 λB hB=>?_
   rcases(jU hB).2 with⟨k',e,nB⟩ |⟨e,_⟩
   all_goals grind
 |be l k i o h hl=>
  intro x hx
  cases hx with
  |c h=>cases h
  |be _ _ _ _ _ h1 h2=>
   refine .be _ _ _ _ hl h1 λB hB=>?_
   rcases(jU hB).2 with⟨k',e,nB⟩ |⟨e,_⟩
   all_goals grind
 |Zbc l h hl=>
  intro x hx;obtain⟨rfl,h1⟩:=hx.gW;exact .ms _ _ hl h1 λB hB=>(NU hB h).symm
 |MQ c=>
  intro x hx;obtain⟨rfl,_⟩:=hx.gW;exact .c (.nil YI c)
 |fms k mb hm hc hd=>
  intro x hx;obtain⟨B,hB,hb,rfl⟩:=hx.tf hk hm;exact .c (M8 hB hb hc (λb hb=>.inl hb) λhz=>.inr ⟨k,B,hB,hz,rfl,hd⟩)
 |fss k a b mb hm hc hd=>
  intro x hx;obtain⟨B,hB,hb,A,c,rfl,B8,Rf,hA⟩:=hx.zH hk hm;exact .c (CS hB hb hc (λb hb=>.inl hb) (λhz=>.inr ⟨k,B,hB,hz,rfl,hd⟩) B8 Rf hA)
 |fbe k i o mb cs hm hi hc hd=>
  intro x hx;obtain⟨B,hB,hb,hz,rfl⟩:=hx.Br hk hm;obtain⟨cells,m1,m2,m3⟩:=hb.mem hz;have hex:∀j:Nat,∃u:Value,∀p,cs[o+j]?=YH p->cells[i*B.k+(o+j)]?=YH u/\u.oneCell'=YJ/\fg w (sq E m ρ m').S p u:=by
   intro j
   cases hj:cs[o+j]? with
   |none=>simp
   |some p=>
    obtain⟨u,u1,u2,u3⟩:=m3 i cs (o+j) p hi hj;refine⟨u,λp' h=>?_⟩
    simp at h
    subst h;exact⟨u1,u2,(u3.toC (hc p (VV hj))).all λb hb=>.inl hb⟩
  obtain⟨f,hf⟩:=W8 hex;refine .c (.rp _ B.b (i*B.k+o) f (.inr ⟨k,B,hB,hz,rfl,hd⟩) (λj p hj=>?_) (λj p hj=>?_) λj p hj=>?_)
  ·rw[cell_of_row w B.b _ cells B.T (0,0) m1,XG];simp_all
  all_goals grind
 |fn f cs ds hl h ih=>
  intro x hx;obtain⟨vs,rfl,hvl,hr⟩:=hx.FA;refine .fn f ds vs X9 λj r x Om uJ=>?_
  grind
theorem tv:∀{ps rs:List PV},ry ρ m m' ps rs->rs.length=ps.length/\∀(j:Nat) (r:PV),rs[j]?=YH r->∃p,ps[j]?=YH p/\oK ρ m m' p r
 | [],[],_=>⟨rfl,by simp⟩
 | [],_::_,h=>h.elim
 |_::_,[],h=>h.elim
 |p::ps,r::rs,h=>by
  obtain⟨h1,h2⟩:=tv h.2;refine⟨by grind,λj q hq=>?_⟩
  cases j with
  |zero=>obtain rfl:r=q:=by grind
         exact⟨p,rfl,h.1⟩
  |succ j=>grind
theorem Hq(hk:Ok w0 O E w m)(h:Fb ρ m m' p r){x:Value}(hx:dE w E p x):dE w (sq E m ρ m') r x:=by
 cases h with
 |c h=>exact BN hk h hx
 |ag cs ds h=>
  obtain⟨vs,rfl,hl,h1,hr⟩:=hx.qq;obtain⟨e1,e2⟩:=tv h;refine .ag _ vs X9 h1 λj r x Om uJ=>?_
  obtain⟨p,hp,hc⟩:=e2 j r Om;exact BN hk hc (hr j p x hp uJ)
theorem DW:∀{ps rs:List PV},BM ρ m m' ps rs->rs.length=ps.length/\∀(j:Nat) (r:PV),rs[j]?=YH r->∃p,ps[j]?=YH p/\Fb ρ m m' p r
 | [],[],_=>⟨rfl,by simp⟩
 | [],_::_,h=>h.elim
 |_::_,[],h=>h.elim
 |p::ps,r::rs,h=>by
  obtain⟨h1,h2⟩:=DW h.2;refine⟨by grind,λj q hq=>?_⟩
  cases j with
  |zero=>obtain rfl:r=q:=by grind
         exact⟨p,rfl,h.1⟩
  |succ j=>grind
theorem QQ(hk:Ok w0 O E w m)(h:Dm ρ m m' p r){x:Value}(hx:dE w E p x):dE w (sq E m ρ m') r x:=by
 cases h with
 |a h=>exact Hq hk h hx
 |tu cs ds h=>
  obtain⟨vs,rfl,hl,hr⟩:=hx.xo;obtain⟨e1,e2⟩:=DW h;refine .tu _ vs X9 λj r x Om uJ=>?_
  obtain⟨p,hp,hc⟩:=e2 j r Om;exact Hq hk hc (hr j p x hp uJ)
theorem Hv:∀{ps rs:List PV},Dr ρ m m' ps rs->rs.length=ps.length/\∀(j:Nat) (r:PV),rs[j]?=YH r->∃p,ps[j]?=YH p/\Dm ρ m m' p r
 | [],[],_=>⟨rfl,by simp⟩
 | [],_::_,h=>h.elim
 |_::_,[],h=>h.elim
 |p::ps,r::rs,h=>by
  obtain⟨h1,h2⟩:=Hv h.2;refine⟨by grind,λj q hq=>?_⟩
  cases j with
  |zero=>obtain rfl:r=q:=by grind
         exact⟨p,rfl,h.1⟩
  |succ j=>grind
theorem so:∀{ps rs:List (List PV)},xM ρ m m' ps rs->rs.length=ps.length/\∀(j:Nat) (r:List PV),rs[j]?=YH r->∃p,ps[j]?=YH p/\ry ρ m m' p r
 | [],[],_=>⟨rfl,by simp⟩
 | [],_::_,h=>h.elim
 |_::_,[],h=>h.elim
 |p::ps,r::rs,h=>by
  obtain⟨h1,h2⟩:=so h.2;refine⟨by grind,λj q hq=>?_⟩
  cases j with
  |zero=>obtain rfl:r=q:=by grind
         exact⟨p,rfl,h.1⟩
  |succ j=>grind
theorem Ok.cut(hk:Ok w0 O E w m)(h:Zc4 n0 ρ m m'):Ok w0 O (sq E m ρ m') w m':=by
 refine⟨hk.up,?_,λl B hB hz=>?_,λl l' B B' hB nB hz uM e=>?_,λl hl=>hl,λl B hB=>?_,λl nv Dx=>?_,λl B hB=>tK.1 (jU hB).1,hk.Nl,λb q hq=>?_⟩
 ·rintro b (hb|⟨k,B,hB,hz,rfl,_⟩)
  ·exact hk.sz b hb
  ·exact(hk.own k B hB hz).2.1
 ·obtain⟨hl,⟨k,e,nB⟩ |⟨_,uM⟩⟩:=jU hB
  ·obtain⟨a,b,c⟩:=hk.own k B nB hz
   refine⟨a,b,?_⟩;rintro(hS|⟨k2,B2,hB2,Oq,e2,wG⟩)
   ·grind
   ·have:=hk.inj k k2 B B2 nB hB2 hz Oq e2.symm
    subst this;exact wG l hl e
  grind
 ·obtain⟨hl,⟨k,e1,h1⟩ |⟨_,h1⟩⟩:=jU hB
  ·obtain⟨FI,⟨k',e2,h2⟩ |⟨_,h2⟩⟩:=jU nB
   ·have:=hk.inj k k' B B' h1 h2 hz uM e
    subst this;exact h.inj l l' k hl FI e1 e2
   grind
  grind
 ·have:=(jU hB).1
  obtain⟨mb,hm⟩:=tK.1 this;exact(VT.1 hm).1
 ·rcases h.row l nv Dx with⟨k,mb,hρ,hm,⟨hT,Oh,xT⟩,Zf1⟩ |⟨hρ,h0,gH⟩
  ·obtain⟨B,hB,hb⟩:=hk.mem k mb hm
   refine⟨B,by simp only[sq];grind,by rw[hb.k,Oh],?_,by rw[hb.T,hT],hb.pos,hb.nc,hb.cm,?_,λhz=>?_,λhz=>?_,λT1 hT1 hz i ds j es x hi hj iq hcx=>?_⟩
   ·rcases xT with⟨e,_⟩ |he
    ·rw[hb.n,e]
    ·rw[hb.n,(so he).1]
   ·intro i ds hi
    rcases xT with⟨e,_⟩ |he
    ·rw[e]at hi;exact hb.es i ds hi
    ·obtain⟨cs,sL,hc⟩:=(so he).2 i ds hi
     rw[(tv hc).1];exact hb.es i cs sL
   ·have h0:=hb.nil hz
    rcases xT with⟨e,_⟩ |he
    ·grind
    ·have:=(so he).1
     grind
   ·obtain⟨cells,m1,m2,m3⟩:=hb.mem hz
    refine⟨cells,m1,m2,λi ds j r hi hj=>?_⟩
    rcases xT with⟨e,tD⟩ |he
    ·rw[e]at hi
     obtain⟨x,x1,x2,x3⟩:=m3 i ds j r hi hj;exact⟨x,x1,x2,.c ((x3.toC (tD ds (VV hi) r (VV hj))).all λb hb=>.inl hb)⟩
    ·obtain⟨cs,sL,hc⟩:=(so he).2 i ds hi
     obtain⟨p,hp,hc'⟩:=(tv hc).2 j r hj;obtain⟨x,x1,x2,x3⟩:=m3 i cs j p sL hp;exact⟨x,x1,x2,BN hk hc' x3⟩
   ·rw[hT]
    rcases Zf1 T1 hT1 i ds j es hi hj iq with⟨g1,cs,g2,g3⟩ |⟨cs,kk,mk,g1,g2,g3,g4,g5,g6,g7⟩
    ·obtain⟨b,c,k',qu,a1,a2,a3⟩:=hb.key T1 g1 hz i cs j es x g2 g3 iq hcx
     exact⟨b,c,k',qu,a1,.inl a2,a3⟩
    ·obtain⟨Bk,hBk,xq⟩:=hk.mem kk mk g4
     obtain⟨cells,m1,m2,m3⟩:=hb.mem hz;obtain⟨y,y1,y2,y3⟩:=m3 i cs j _ g1 g2;rw[cell_of_row w B.b _ cells B.T (0,0) m1]at hcx
     obtain rfl:y=x:=by grind
     obtain⟨B1,wT,_,rfl⟩:=y3.tf hk g4;obtain rfl:Bk=B1:=by grind
     have J1:Bk.z=false:=xq.ZaZ Yd;obtain⟨Zbs,n1,n2,n3⟩:=xq.mem J1;refine⟨Bk.b,Bk.c,Bk.k,Zbs,by rw[show Bk.sv=.slice (YH ⟨Bk.b,0,YI⟩) Bk.n Bk.c by simp[qm.sv,J1],xq.n,g6],.inr ⟨kk,Bk,hBk,J1,rfl,g7,g3⟩,by rw[<-g5,<-xq.T];omega,n2,xq.pos,by rw[<-g6,<-xq.n];exact xq.nc,xq.cm,λe he=>?_⟩
     rw[<-g6]at he
     obtain⟨i1,hi1⟩:=List.getElem?_of_mem he;exact xq.es i1 e hi1
  ·refine⟨⟨0,0,0,nv.k,nv.T.t,YJ⟩,by simp only[sq];grind,rfl,by grind,rfl,gH,Nat.le_refl _,Wu _,by grind,λ_=>h0,λh=>Yj,λ_ _ h=>by cases h⟩
 ·rcases hq with hq|⟨k,B,hB,hz,rfl,hd,ha⟩
  ·refine⟨.inl (hk.ow b q hq).1,λq' UR=>?_⟩
   rcases UR with h'|⟨k,B,hB,hz,rfl,_⟩
   ·exact(hk.ow b q hq).2 q' h'
   ·exact absurd (hk.ow _ q hq).1 (hk.own k B hB hz).2.2
  ·refine⟨.inr ⟨k,B,hB,hz,rfl,hd⟩,λq' UR=>?_⟩
   rcases UR with h'|⟨k2,B2,hB2,Oq,e2,_,ha2⟩
   ·exact absurd (hk.ow _ q' h').1 (hk.own k B hB hz).2.2
   ·have:=hk.inj k2 k B2 B hB2 hB Oq hz e2
    subst this;exact ha.2 q' ha2.1
theorem rv.cut{t t':List PV}{a:Act}(h:rv F t m a w)(hc:Cut F.n0 t m t' m'):rv F t' m' a w:=by
 obtain⟨E,hk,Dl,Ay,Ob,hu0,hd,ht⟩:=h;obtain⟨ρ,h1,h2⟩:=hc;obtain⟨e1,e2⟩:=Hv h1;refine⟨sq E m ρ m',hk.cut h2,λb hb=>.inl (Dl b hb),⟨λb hb=>?_,λb q hb=>?_⟩,λl B hl hB=>?_,λl hl=>Nat.lt_of_lt_of_le hl h2.n0,hd,by rw[ht.1,e1],λi r hr=>?_⟩
 ·rcases hb with hb|⟨k,B,hB,hz,rfl,_⟩
  ·exact Ay.1 b hb
  ·rcases(hk.own k B hB hz).1 with h|h
   all_goals grind
 ·rcases hb with hb|⟨k,B,hB,hz,rfl,_⟩
  ·exact Ay.2 b q hb
  ·rcases(hk.own k B hB hz).1 with h|h
   all_goals grind
 ·obtain⟨sM,⟨k,e,nB⟩ |⟨e,_⟩⟩:=jU hB
  ·rw[h2.low l hl sM]at e
   grind
  ·rw[h2.low l hl sM]at e;cases e
 ·obtain⟨p,hp,zj⟩:=e2 i r hr
  exact QQ hk zj (ht.2 i p hp)
theorem rv.Uq{t t':List PV}{a:Act}{n0:Nat}(hc:ru n0 t m t' m')(hn:F.n0=n0)(h:rv F t m a w):rv F t' m' a w:=by
 subst hn
 induction hc with
 |one hc=>exact h.cut hc
 |two hc _ ih=>exact ih (h.cut hc)
theorem PM{Q:Exit->Act->World->Prop}(I:Nat->Act->World->Prop)(round:∀n a w,I n a w->c.wp P (Exit.then (λa' w'=>∃k,k<n/\I k a' w') Q) a w){a:Act}{w:World}(h0:I n a w):(Code.loop c).wp P Q a w:=by
 intro b k cs;have key:∀n a w,I n a w->∃e a' w',Q e a' w'/\Arrives P (lone (b.at a (.code c::.inLoop c::k)) cs w) b k cs e a' w':=by
  intro n
  induction n using Nat.strongRecOn with
  |_ n ih=>
   intro a w hI;obtain⟨e,NC,PN,hq,Ie⟩:=round n a w hI b (.inLoop c::k) cs
   cases e with
   |normal=>
    obtain⟨j,bU,ZdN⟩:=hq;obtain⟨ZfI,Zfo,ZgM,Zeg,UG⟩:=ih j bU NC PN ZdN;exact⟨ZfI,Zfo,ZgM,Zeg,.of_steps (Steps.trans Ie (.one step_inLoop)) UG⟩
   |exit id=>exact⟨_,NC,PN,hq,.pass (x:=.inLoop c) rfl (λ_ _=>.inl Ye) Ie⟩
   |goto l=>exact⟨_,NC,PN,hq,.pass (x:=.inLoop c) rfl (λ_ _=>.inl Ye) Ie⟩
   |ret=>exact⟨_,NC,PN,hq,.pass (x:=.inLoop c) rfl (λ_ _=>.inl Ye) Ie⟩
   |panic ch=>exact⟨_,NC,PN,hq,.pass (x:=.inLoop c) rfl (λ_ _=>.inl Ye) Ie⟩
   |outgrown=>exact⟨_,NC,PN,hq,.pass (x:=.inLoop c) rfl (λ_ _=>.inl Ye) Ie⟩
 obtain⟨e,a',w',hq,Ie⟩:=key n a w h0;exact⟨e,a',w',hq,.of_steps (.one step_loop) Ie⟩
def R2(F:Fr)(Q:Exit->List PV->Mem->Prop):Exit->Act->World->Prop:=λe a w=>∃t m,Q e t m/\rv F t m a w
theorem EM{ops:Array Oper}{draw:Bool}{Q:Exit->List PV->Mem->Prop}{t:List PV}{m:Mem}{a:Act}{w:World}(h:ZcD P draw ops (Q .normal) t m)(hr:rv F t m a w):(Code.region id ops draw).wp P (R2 F Q) a w:=by
 obtain⟨E,hk,Dl,Ay,Ob,hu0,hd,ht⟩:=hr
 cases draw with
 |false=>
  refine wp_region_list (xe ops.toList t m E w a hk hd ht h ?_);intro t m E' w' a' hK h1 hx h2 h3;exact⟨t,m,hK,E',h1,λb hb=>hx.S b (Dl b hb),S8 hk Ay hx,λl B hl hB=>Ob l B hl (hx.β l B (hu0 l hl) hB),λl hl=>hx.used l (hu0 l hl),h2,h3⟩
 |true=>
  obtain⟨hf,wd,fl,Iu,hp⟩:=h;obtain⟨as_,gs,h1,h2,⟨ZfS,hK⟩,uL⟩:=EE ops.toList 0 [] t m hp;have DA:ZaT P wd ops.toList as_ gs t m:=⟨h1,h2,ZfS,λk o hko=>by
   simp_all⟩
  have hu:Ok F.w0 F.O E { w with drawn:=w.drawn+1} m/\Ext w { w with drawn:=w.drawn+1} E E:=hk.drew 1
  refine wp_region_any hf ?_;have hre:∀(j:Nat),(WV ops.size YK).getD j YK=false:=λj=>by
   rw[Ww]
   grind
  have Zd0:(λj=>(WV ops.size YK).getD j YK)=λ_=>false:=funext hre
  have key:=Hz (w0:=F.w0) (O:=F.O) (S0:=F.S0) (P1:=F.P1) Iu DA (J:=λE=>(∀l B,l<F.n0->E.β l=YH B->F.β0 l=YH B)/\∀l,l<F.n0->E.used l)
   (λw w' E E' hx hJ=>⟨λl B hl hB=>hJ.1 l B hl (hx.β l B (hJ.2 l hl) hB),λl hl=>hx.used l (hJ.2 l hl)⟩) (K:=Q .normal) (Q:=R2 F Q) hK
   (λt m a w E hK hk h1 h2 hd ht hJ=>⟨t,m,hK,E,hk,h1,h2,hJ.1,hJ.2,hd,ht⟩) ops.size (WV ops.size YK) a _ E Ye (by
    unfold unl
    grind) (by
    intro j o hj hL
    simp_all) (by rw[Zd0,C2 _ _ _ (λ_=>rfl)];exact hu.1) Dl Ay hd (by rw[Zd0,C4 _ _ _ (λ_=>rfl)];exact ht.ext hu.2)
    (λl hl=>.inl (hk.used l hl)) ⟨Ob,hu0⟩
  omega
theorem qV:∀(c:Code) (Q:Exit->List PV->Mem->Prop) (t:List PV) (m:Mem) (a:Act) (w:World),qI P F.n0 c Q t m->rv F t m a w->c.wp P (R2 F Q) a w
 |.skip,Q,t,m,a,w,h,hr=>wp_skip ⟨t,m,h,hr⟩
 |.seq x y,Q,t,m,a,w,h,hr=>by
  refine wp_seq (Code.wp_mono ?_ (qV x _ t m a w h hr));rintro e a w ⟨t,m,hq,hr⟩
  cases e with
  |normal=>exact qV y Q t m a w hq hr
  |_=>exact⟨t,m,hq,hr⟩
 |.cond c x y,Q,t,m,a,w,h,hr=>by
  simp only[qI]at h
  split at h
  ·rename_i b hb
   have Om:=hr;obtain⟨E,hk,_,_,_,_,hd,ht⟩:=Om;have hv:=xP ht c;rw[hb]at hv
   have hv:=hv.gW.1
   cases b with
   |true=>exact wp_cond_true hv (qV x Q t m a w Yd hr)
   |false=>exact wp_cond_false hv (qV y Q t m a w Yd hr)
  grind
 |.block id c,Q,t,m,a,w,h,hr=>by
  refine wp_block (Code.wp_mono ?_ (qV c _ t m a w h hr));rintro e a w ⟨t,m,hq,hr⟩
  cases e with
  |exit i=>
   simp only[Exit.inBlock];simp only[uZ]at hq
   split
   ·rename_i hi;rw[if_pos hi]at hq;exact⟨t,m,hq,hr⟩
   ·rename_i hi;rw[if_neg hi]at hq;exact⟨t,m,hq,hr⟩
  |_=>exact⟨t,m,hq,hr⟩
 |.loop c,Q,t,m,a,w,h,hr=>by
  obtain⟨I,n,t0,m0,hcut,hI,RD⟩:=h;refine PM (λn a w=>∃t m,I n t m/\rv F t m a w) ?_ ⟨t0,m0,hI,rv.Uq hcut rfl hr⟩
  rintro n a w ⟨t,m,hI,hr⟩;refine Code.wp_mono ?_ (qV c _ t m a w (RD n t m hI) hr);rintro e a w ⟨t,m,hq,hr⟩
  cases e with
  |normal=>
   obtain⟨k,t',m',bU,hcut,hI⟩:=hq;exact⟨k,bU,t',m',hI,rv.Uq hcut rfl hr⟩
  |_=>exact⟨t,m,hq,hr⟩
 |.exit i,Q,t,m,a,w,h,hr=>wp_exit ⟨t,m,h,hr⟩
 |.ret,Q,t,m,a,w,h,hr=>wp_ret ⟨t,m,h,hr⟩
 |.region id ops draw,Q,t,m,a,w,h,hr=>by
  rcases h with h|⟨t1,m1,hc,h⟩
  ·exact EM h hr
  ·exact EM h (rv.Uq hc rfl hr)
 |.scope _,_,_,_,_,_,h,_=>h.elim
 |.label _,_,_,_,_,_,h,_=>h.elim
 |.goto _,_,_,_,_,_,h,_=>h.elim
 |.rangeFunc ..,_,_,_,_,_,h,_=>h.elim
 |.refuse _,_,_,_,_,_,h,_=>h.elim
def Pu(P:Program):List ResultVar->List PV->Mem->(List PV->Prop)->Prop
 | [],_,_,K=>K []
 |.tmp i::rest,t,m,K=>Pu P rest t m λps=>K (t.getD i .un::ps)
 |.cell i T::rest,t,m,K=>rQ P T (J3 m (t.getD i .un)) λp=>Pu P rest t m λps=>K (p::ps)
def Vu:List PV->PV
 | [p]=>p
 |ps=>.tu ps
def Zcs:List Value->Value
 | [v]=>v
 |vs=>.tuple vs.toArray
theorem xi(hk:Ok w0 O E w m){t:List PV}{a:Act}(ht:rG w E t a.tmps):∀(rs:List ResultVar) (K:List PV->Prop),Pu P rs t m K->
 ∃ps vs,K ps/\(rs.mapM fun(r:ResultVar)=>(match r with
  |.tmp t=>pure (a.tmps.getD t YO)
  |.cell b T=>do loadVar T (<-asAddr (a.tmps.getD b YO)):Sem Value)).run P w=.ok vs w/\vs.length=ps.length/\ps.length=rs.length/\∀(j:Nat) (p:PV) (x:Value),ps[j]?=YH p->vs[j]?=YH x->dE w E p x
 | [],K,h=>⟨[],[],h,by simp,rfl,rfl,by simp⟩
 |.tmp i::rest,K,h=>by
  obtain⟨ps,vs,hK,kh,hl,MA,hr⟩:=xi hk ht rest _ h;refine⟨_,a.tmps.getD i YO::vs,hK,?_,by grind,by grind,λj p x hp hx=>?_⟩
  ·simp_all
  ·cases j with
   |zero=>
    simp only[List.getElem?_cons_zero,V4]at hp hx
    subst hp hx;exact xP ht (.tmp i)
   |succ j=>grind
 |.cell i T::rest,K,h=>by
  simp only[Pu]at h
  cases hp:J3 m (t.getD i .un)with
  |none=>unfold rQ at h;grind
  |some cs=>
   rw[hp]at h
   obtain⟨b,off,hx,hb,hc⟩:=M6 hk (xP ht (.tmp i)) hp;obtain⟨p,v,hK,Zek,tb⟩:=EA h hb hc;obtain⟨ps,vs,hK,kh,hl,MA,hr⟩:=xi hk ht rest _ hK;simp only[Act.eval]at hx
   refine⟨_,v::vs,hK,?_,by grind,by grind,λj p x hp hx=>?_⟩
   ·have ZfQ:(asAddr (a.tmps.getD i YO)).run P w=.ok ⟨b,off,YI⟩ w:=by rw[hx];rfl
    simp only[List.mapM_cons,Sem.run_bind,ZfQ,Result.andThen_ok,Zek w (Up.rfl' w)]
    simp_all
   grind
def Fin(P:Program)(n0:Nat)(rs:Array ResultVar)(r:PV)(m1:Mem)(t:List PV)(m:Mem):Prop:=Pu P rs.toList t m λps=>ru n0 [Vu ps] m [r] m1
theorem Ny{t:List PV}{a:Act}(hr:rv F t m a w)(h:Fin P F.n0 fn.results r m1 t m):
 ∃v E',(results fn a.tmps).run P w=.ok v w/\Ok F.w0 F.O E' w m1/\(∀b,F.S0 b->E'.S b)/\SBd F.S0 F.P1 F.w0 F.O E'/\(∀l B,l<F.n0->E'.β l=YH B->F.β0 l=YH B)/\dE w E' r v:=by
 obtain⟨E,hk,Dl,Ay,Ob,hu0,hd,ht⟩:=hr;obtain⟨ps,vs,hcut,kh,hl,MA,hr⟩:=xi hk ht _ _ h;have Iq:(results fn a.tmps).run P w=.ok (Zcs vs) w:=by
  unfold results;rw[Array.mapM_eq_mapM_toList,Sem.run_bind,Sem.run_map];refine(congrArg (λr=>(Result.andThen r fun(a:List Value) w'=>Result.ok a.toArray w').andThen _) kh).trans ?_
  match vs with
  | []=>rfl
  | [v]=>rfl
  |_::_::_=>rfl
 have hv0:dE w E (Vu ps) (Zcs vs):=by
  match vs,ps,hl with
  | [v],[p],_=>exact hr 0 p v rfl rfl
  | [],[],_=>exact .tu _ _ Ye Ye
  |v::v'::vs,p::p'::ps,hl=>exact .tu _ _ X9 λj q x hq hx=>hr j q x hq Yd
 generalize Zcs vs=v0 at Iq hv0
 have h0:rv F [Vu ps] m { tmps:=#[v0],defers:=[]} w:=by
  refine⟨E,hk,Dl,Ay,Ob,hu0,rfl,rfl,λi p hp=>?_⟩
  cases i with
  |zero=>
   simp_all
  |succ i=>grind
 obtain⟨E',k1,k2,k3,k4,_,_,k5⟩:=rv.Uq hcut rfl h0;exact⟨_,E',Iq,k1,k2,k3,k4,k5.2 0 r rfl⟩
theorem ja{f:FuncId}(hf:P.funcs[f]?=YH fn)(hb:fn.body=YH c)(hn:fn.ntmps=n){rs:Array ResultVar}(hrs:fn.results=rs){args:List PV}{m0:Mem}
 (h:∀Q:Exit->List PV->Mem->Prop,(∀t m,Fin P m0.length rs r m1 t m->Q .ret t m)->(∀t m,Fin P m0.length rs r m1 t m->Q .normal t m)->qI P m0.length c Q (args++V7 (n-args.length) .ud) m0):fL P f args m0 r m1:=by
 subst hn hrs;intro S β w vs ω hk hl hargs
 let F:Fr:=⟨w,np β,β,m0.length,S,ω⟩
 have hr0:rv F (args++V7 (fn.ntmps-args.length) .ud) m0 { tmps:=vs++WV (fn.ntmps-vs.size) YO,defers:=[]} w:=by
  refine⟨E1 S β m0.length ω,hk,λb hb=>hb,⟨λb hb=>.inl hb,λb q hb=>.inl hb⟩,λl B hl hB=>hB,λl hl=>hl,rfl,by grind,λi p hp=>?_⟩
  rcases Wv i args.length with hi|hi
  ·rw[Wt hi]at hp
   obtain⟨x,hx,hr⟩:=hargs i p hp;have hiv:i<vs.size:=X9;have e:(vs++WV (fn.ntmps-vs.size) YO).getD i YO=x:=by
    rw[Ww,Array.getElem?_append_left hiv,hx];rfl
   grind
  ·rw[List.getElem?_append_right hi]at hp
   have bU:=(VT.1 hp).1;rw[List.length_replicate]at bU
   rw[List.getElem?_replicate,if_pos bU]at hp
   cases hp
   have e:(vs++WV (fn.ntmps-vs.size) YO).getD i YO=YO:=by
    rw[Ww,Array.getElem?_append_right X9]
    grind
   rw[e];exact .c .ud
 refine calls_of_wp hf hb (Code.wp_mono ?_ (qV (F:=F) c (λe t m=>(e=.ret\/e=.normal)/\Fin P m0.length fn.results r m1 t m) _ _ _ w (h _ (λt m h=>⟨.inl rfl,h⟩) (λt m h=>⟨.inr rfl,h⟩)) hr0))
 rintro e a w' ⟨t,m,⟨he,rV⟩,hr⟩;have hd:a.defers=[]:=by obtain⟨_,_,_,_,_,_,hd,_⟩:=hr;omega
 obtain⟨v,E',kh,k1,k2,k3,k4,k5⟩:=Ny hr rV;have key:bodyPost P fn (λe w'=>∃v E',e=.returned v/\Ok w (np β) E' w' m1/\(∀b,S b->E'.S b)/\(∀b,E'.S b->S b\/w.heap.size<=b\/np β b)/\((∀l B,l<m0.length->E'.β l=YH B->β l=YH B)/\∀b q,E'.ω b q->ω b q\/w.heap.size<=b\/np β b)/\dE w' E' r v) .ret a w':=
  ⟨hd,v,kh,v,E',rfl,k1,k2,k3.1,⟨k4,k3.2⟩,k5⟩
 rcases he with rfl|rfl
 ·omega
 ·exact key
end
theorem dT{α:Sort _}{a b:α}(h:a=b):a=b:=h
abbrev vi(n:Int):PV:=.v (YM YN n)
abbrev v8(n:Int):PV:=.v (.int .u8 n)
abbrev vb(b:Bool):PV:=.v (.bool b)
abbrev vs(s:ByteArray):PV:=.v (.string s)
abbrev aI(n:Int):Int:=IntKind.i64.wrap n
/-! ### The other side: L3 the code ZgE,as_ a function;an answer is YI where Go Zg8 panic. -/
def bW(b:Bool):Option Unit:=cond b (YH ()) YI
def aB{α:Type}(xs:List α)(i:Int):Option α:=if 0<=i then xs[i.toNat]? else YI
def uk(s:ByteArray)(i:Int):Option Int:=if 0<=i/\i<s.size then YH (yX s i.toNat)else YI
def bm(n bytes:Nat):Bool:=YL (n<=1099511627776/\n*bytes<=140737488355328)
def gg(l h n:Int):Bool:=YL (0<=l/\l<=h/\h<=n)
def cH{α:Type}(xs:List α)(l h:Int):List α:=(xs.drop l.toNat).take (h.toNat-l.toNat)
def Tl(s:ByteArray)(l h:Int):ByteArray:=s.extract l.toNat h.toNat
abbrev bk{σ ο δ:Type}(f:σ->δ)(g:ο->δ):σ⊕ο->δ
 |.inl a=>f a
 |.inr b=>g b
def aD{σ ο:Type}(body:σ->Option (σ⊕ο)):Nat->σ->Option ο
 |0,_=>YI
 |n+1,s=>(body s).bind (bk (aD body n) YH)
def NN:Nat:=1152921504606846976
section
variable {α β γ δ σ ο:Type}
theorem H0{x:Option α}{r:α}(h:x=YH r):x.bind YH=YH r:=by simp_all
theorem Hc1{b:Bool}{A B:Option α}{K:α->Option β}{r:β}(h:(cond b A B).bind K=YH r)(hb:b=YJ):A.bind K=YH r:=by simp_all
theorem Hc2{b:Bool}{A B:Option α}{K:α->Option β}{r:β}(h:(cond b A B).bind K=YH r)(hb:b=YK):B.bind K=YH r:=by simp_all
theorem Bb{x:Option α}{F:α->Option β}{K:β->Option γ}{r:γ}(h:(x.bind F).bind K=YH r):∃a,x=YH a/\(F a).bind K=YH r:=by
 cases x with
 |none=>cases h
 |some a=>simp_all
theorem TL{b:Bool}{F:Unit->Option β}{K:β->Option γ}{r:γ}(h:((bW b).bind F).bind K=YH r):b=YJ/\(F ()).bind K=YH r:=by
 cases b with
 |false=>cases h
 |true=>exact⟨rfl,h⟩
theorem Hlp{x:Option ο}{G:ο->Option β}{K:β->Option γ}{r:γ}(h:(x.bind G).bind K=YH r):x.bind (λo=>(G o).bind K)=YH r:=by
 grind
theorem Hrd{body:σ->Option (σ⊕ο)}{s:σ}{K:ο->Option β}{r:β}(h:(aD body (n+1) s).bind K=YH r):(body s).bind (bk (λs'=>(aD body n s').bind K) K)=YH r:=by
 unfold aD at h
 grind
theorem Hno{body:σ->Option (σ⊕ο)}{s:σ}{K:ο->Option β}{r:β}(h:(aD body 0 s).bind K=YH r):False:=by cases h
theorem Zfk{a r:α}(h:YH a=YH r):a=r:=VW h
end
class CT(P:Program){R:Type}(x:Option R) where
 f:FuncId
 args:List PV
 m0:Mem
 res:R->PV
 mem:R->Mem
 ok:∀{r:R},x=YH r->fL P f args m0 (res r) (mem r)
class bo{σ ο:Type}(body:σ->Option (σ⊕ο)) where
 T:σ->List PV
 M:σ->Mem
class dy{α:Type}(f:α->List PV):Prop where
 h:∀x,∀q∈f x,r9 q=YJ
class qJ{α:Type}(f:α->List PV):Prop where
 h:∀x,∀q∈f x,IA q=YJ
/-! ### The ZgK Pv. -/
def U:Nat->List PV->List PV
 |0,l=>l
 |n+1,l=>.un::U n l
theorem U_z(l:List PV):U 0 l=l:=dT rfl
theorem U_s(n:Nat)(l:List PV):U (n+1) l=.un::U n l:=dT rfl
theorem ZeO(a b:PV)(as_:List PV):(a::as_).set 0 b=b::as_:=dT rfl
theorem ZeN(a b:PV)(as_:List PV)(n:Nat):(a::as_).set (n+1) b=a::as_.set n b:=dT rfl
theorem Q8(a d:PV)(as_:List PV):(a::as_).getD 0 d=a:=dT rfl
theorem Q7(a d:PV)(as_:List PV)(n:Nat):(a::as_).getD (n+1) d=as_.getD n d:=dT rfl
theorem ZeH{α:Type}(a:α)(as_:List α):(a::as_)[0]?=YH a:=dT rfl
theorem ZeG{α:Type}(a:α)(as_:List α)(n:Nat):(a::as_)[n+1]?=as_[n]?:=dT rfl
theorem ZeF{α:Type}(as_:List α)(n:Nat):as_.toArray[n]?=as_[n]?:=dT Ye
section
variable {P:Program} {ops:Array Oper} {K:List PV->Mem->Prop} {KD:List LE->List PV->Mem->Prop} {rest:List Oper} {t:List PV} {m:Mem} {d:Option Tmp} {o:Op} {ty:TypeId} {pos:String} {af:Array Edge} {j:Nat} {b:Bool} {KA:PV->Mem->Prop} {KR:PV->Prop} {io:Bool} {wd ν base i:Nat} {g:List LE} {fl:List Nat}
def nxt(P:Program)(ops:Array Oper)(K:List PV->Mem->Prop)(rest:List Oper)(t:List PV)(d:Option Tmp)(p:PV)(m:Mem):Prop:=sP P ops K rest (iZ t d p) m
def G8(K:PV->Mem->Prop)(m:Mem)(p:PV):Prop:=K p m
def rgo(P:Program)(ops:Array Oper)(K:List PV->Mem->Prop)(rest:List Oper)(d:Option Tmp)(o:Op)(m:Mem)(t:List PV):Prop:=iT P YJ 16 m.length o t m (nxt P ops K rest t d)
def pgo(P:Program)(ops:Array Oper)(K:List PV->Mem->Prop)(rest:List Oper)(d:Option Tmp)(m:Mem)(t:List PV):Prop:=sP P ops K rest (iZ t d .ud) m
def tB(c:Bool)(y n:List PV->Prop)(t:List PV)(i:Nat):Prop:=gate c (y (t.set i (.v (.bool YJ)))) (n (t.set i (.v (.bool YK))))
def gdV(p:PV)(i:Nat)(t:List PV)(b:Bool)(run pass:List PV->Prop):Prop:=
 match p,b with
 |.v (.bool c),YJ=>tB c run pass t i
 |.v (.bool c),YK=>tB c pass run t i
 |.ud,_=>pass t
 |_,_=>False
def gd(d:Option Tmp)(t:List PV)(b:Bool)(run pass:List PV->Prop):Prop:=
 match d with
 |none=>pass t
 |some d=>gdV (t.getD d .un) d t b run pass
theorem MU:nxt P ops K rest t d p m=sP P ops K rest (iZ t d p) m:=dT rfl
theorem Mf:G8 KA m p=KA p m:=dT rfl
theorem Zaf:rgo P ops K rest d o m t=iT P YJ 16 m.length o t m (nxt P ops K rest t d):=dT rfl
theorem VL:pgo P ops K rest d m t=sP P ops K rest (iZ t d .ud) m:=dT rfl
theorem Q6{y n:List PV->Prop}{i:Nat}:tB YJ y n t i=y (t.set i (.v (.bool YJ))):=by simp[tB,gate]
theorem Q5{y n:List PV->Prop}{i:Nat}:tB YK y n t i=n (t.set i (.v (.bool YK))):=by simp[tB,gate]
theorem HZ{c:Bool}{y n:List PV->Prop}{i:Nat}(h1:c=YJ->y (t.set i (.v (.bool YJ))))(h2:c=YK->n (t.set i (.v (.bool YK)))):tB c y n t i:=⟨h1,h2⟩
theorem SE:sP P ops K [] t m=K t m:=dT rfl
theorem VN:sP P ops K (⟨d,o,ty,pos,af,YI⟩::rest) t m=iT P YJ 16 m.length o t m (nxt P ops K rest t d):=dT rfl
theorem VM:sP P ops K (⟨d,o,ty,pos,af,YH (j,b)⟩::rest) t m=gd ((ops[j]?).bind (·.dst)) t b (rgo P ops K rest d o m) (pgo P ops K rest d m):=by
 rfl
/-! ZgN the order is drawn. -/
def nxd(P:Program)(wd base:Nat)(fl:List Nat)(ops:Array Oper)(K:List LE->List PV->Mem->Prop)(i:Nat)(rest:List Oper)(g:List LE)(t:List PV)(d:Option Tmp)(p:PV)(m:Mem):Prop:=lY P wd base fl ops K i rest g (iZ t d p) m
def rgd(P:Program)(wd base:Nat)(fl:List Nat)(ops:Array Oper)(K:List LE->List PV->Mem->Prop)(i:Nat)(rest:List Oper)(g:List LE)(oo:Oper)(m:Mem)(t:List PV):Prop:=
 iT P YK wd (base+wd*i) oo.op t m (nxd P wd base fl ops K (i+1) rest (g++[KS ops oo t wd (base+wd*i)]) t oo.dst)
def pgd(P:Program)(wd base:Nat)(fl:List Nat)(ops:Array Oper)(K:List LE->List PV->Mem->Prop)(i:Nat)(rest:List Oper)(g:List LE)(oo:Oper)(m:Mem)(t:List PV):Prop:=lY P wd base fl ops K (i+1) rest (g++[le0 ops oo]) (iZ t oo.dst .ud) m
def nxe(P:Program)(wd base:Nat)(fl:List Nat)(ops:Array Oper)(K:List LE->List PV->Mem->Prop)(i:Nat)(rest:List Oper)(g:List LE)(oo:Oper)(ν:Nat)(t:List PV)(ρ:List Nat)(p:PV)(m:Mem):Prop:=lY P wd base fl ops K i rest (g++[Vh ops oo ρ wd ν]) (iZ t oo.dst p) m
def rge(P:Program)(wd base:Nat)(fl:List Nat)(ops:Array Oper)(K:List LE->List PV->Mem->Prop)(i:Nat)(rest:List Oper)(g:List LE)(oo:Oper)(m:Mem)(t:List PV):Prop:=
 if KO fl i=YJ then Lu P wd (base+wd*i) oo.op t m (nxe P wd base fl ops K (i+1) rest g oo (base+wd*i) t)else rgd P wd base fl ops K i rest g oo m t
theorem MT{ν:Nat}{ρ:List Nat}:nxe P wd base fl ops KD i rest g oo ν t ρ p m=lY P wd base fl ops KD i rest (g++[Vh ops oo ρ wd ν]) (iZ t oo.dst p) m:=dT rfl
theorem Zae:rge P wd base fl ops KD i rest g oo m t=if KO fl i=YJ then Lu P wd (base+wd*i) oo.op t m (nxe P wd base fl ops KD (i+1) rest g oo (base+wd*i) t)else rgd P wd base fl ops KD i rest g oo m t:=dT rfl
theorem RO{i:Nat}:KO [] i=false:=dT rfl
theorem Ov{a i:Nat}{l:List Nat}:KO (a::l) i=if a=i then YJ else KO l i:=dT rfl
theorem Pa{wd ν:Nat}{f:FuncId}{xs:List Operand}{K:List Nat->PV->Mem->Prop}:Lu P wd ν (.call ⟨.value (.func f),xs.toArray,Ts⟩) t m K=(tG P f/\pIO P wd ν f (xs.map (gh t)) m K):=dT rfl
theorem MS:nxd P wd base fl ops KD i rest g t d p m=lY P wd base fl ops KD i rest g (iZ t d p) m:=dT rfl
theorem Pb:lY P wd base fl ops KD i [] g t m=KD g t m:=by rfl
theorem SD:lY P wd base fl ops KD i (⟨d,o,ty,pos,af,YI⟩::rest) g t m=rge P wd base fl ops KD i rest g ⟨d,o,ty,pos,af,YI⟩ m t:=by rfl
theorem SC:lY P wd base fl ops KD i (⟨d,o,ty,pos,af,YH (j,b)⟩::rest) g t m=gd ((ops[j]?).bind (·.dst)) t b (rgd P wd base fl ops KD i rest g ⟨d,o,ty,pos,af,YH (j,b)⟩ m) (pgd P wd base fl ops KD i rest g ⟨d,o,ty,pos,af,YH (j,b)⟩ m):=by
 rfl
theorem Zad:rgd P wd base fl ops KD i rest g oo m t=iT P YK wd (base+wd*i) oo.op t m (nxd P wd base fl ops KD (i+1) rest (g++[KS ops oo t wd (base+wd*i)]) t oo.dst):=dT rfl
theorem VK:pgd P wd base fl ops KD i rest g oo m t=lY P wd base fl ops KD (i+1) rest (g++[le0 ops oo]) (iZ t oo.dst .ud) m:=dT rfl
theorem Uz{i:Nat}{run pass:List PV->Prop}:gd (YH i) t b run pass=gdV (t.getD i .un) i t b run pass:=dT rfl
theorem Uy{run pass:List PV->Prop}:gd YI t b run pass=pass t:=dT rfl
theorem ZbR{i:Nat}{c:Bool}{run pass:List PV->Prop}:gdV (.v (.bool c)) i t YJ run pass=tB c run pass t i:=dT rfl
theorem ZbQ{i:Nat}{c:Bool}{run pass:List PV->Prop}:gdV (.v (.bool c)) i t YK run pass=tB c pass run t i:=dT rfl
theorem ZbS{i:Nat}{run pass:List PV->Prop}:gdV .ud i t b run pass=pass t:=by rfl
theorem Pg{i:Nat}:iZ t (YH i) p=t.set i p:=dT rfl
theorem Pf:iZ t YI p=t:=dT rfl
theorem Mu{i:Nat}:gh t (.tmp i)=t.getD i .un:=dT rfl
theorem Uu{k:IntKind}{n:Int}:gh t (.const (.int k n))=.v (.int k n):=dT rfl
theorem HQ{c:Bool}:gh t (.const (.bool c))=.v (.bool c):=dT rfl
theorem Uw{c:ByteArray}:gh t (.const (.string c))=.v (.string c):=dT rfl
theorem ZbH{n c:Nat}:gh t (.const (.slice a n c))=.v (.slice a n c):=dT rfl
theorem Uv:gh t (.const (.pointer a))=.v (.pointer a):=dT rfl
theorem Q0{f:FuncId}:gh t (.func f)=.v (.func (.func f) #[] #[]):=dT rfl
theorem O7:iT P io wd ν (.move x) t m KA=KA (gh t x) m:=dT rfl
theorem Jg:iT P io wd ν (.assign x) t m KA=KA (gh t x) m:=dT rfl
def EB(c x y:PV)(K:PV->Prop):Prop:=match c with
 |.v (.bool b)=>K (if b then x else y)
 |_=>False
theorem VB{x y:PV}:EB (.v (.bool YJ)) x y KR=KR x:=dT rfl
theorem VA{x y:PV}:EB (.v (.bool YK)) x y KR=KR y:=dT rfl
theorem O8{c x y:Operand}:iT P io wd ν (.pick c x y) t m KA=EB (gh t c) (gh t x) (gh t y) (G8 KA m):=dT rfl
theorem O6:iT P io wd ν (.load T x) t m KA=rQ P T (J3 m (gh t x)) (G8 KA m):=dT rfl
theorem DI:iT P io wd ν (.nilCheck x) t m KA=DF m (gh t x) (G8 KA m):=dT rfl
theorem Lm{op:BinOp}:iT P io wd ν (.binOp op T x y T') t m KA=I0 P op T (gh t x) (gh t y) (G8 KA m):=dT rfl
theorem O9{op:UnOp}:iT P io wd ν (.unOp op T x) t m KA=pUn op (gh t x) (G8 KA m):=dT rfl
theorem Gk:iT P io wd ν (.convert T T' x) t m KA=rI P m T T' (gh t x) (G8 KA m):=dT rfl
theorem Ls{lo hi:Option Operand}:iT P io wd ν (.slice T x lo hi YI) t m KA=kK P m T (gh t x) (lo.map (gh t)) (hi.map (gh t)) (G8 KA m):=dT rfl
theorem CE{f:Nat}:iT P io wd ν (.fieldAddr T x f) t m KA=kJ P m T (gh t x) f (G8 KA m):=dT rfl
theorem Lp{f:Nat}:iT P io wd ν (.field T x f) t m KA=vp P T (gh t x) f (G8 KA m):=dT rfl
theorem CF:iT P io wd ν (.indexAddr T x y) t m KA=cL P m T (gh t x) (gh t y) (G8 KA m):=dT rfl
theorem Lq:iT P io wd ν (.index T x y) t m KA=sF P T (gh t x) (gh t y) (G8 KA m):=dT rfl
theorem Gl{i:Nat}:iT P io wd ν (.extract x i) t m KA=I3 i (gh t x) (G8 KA m):=dT rfl
theorem Lo{ps:List (Nat×Operand)}:iT P io wd ν (.build T ps.toArray) t m KA=vo P T (ps.map λq=>(q.1,gh t q.2)) (G8 KA m):=dT rfl
theorem DH{f:FuncId}{cs:List Operand}:iT P io wd ν (.makeFunc (.func f) #[] cs.toArray) t m KA=KA (.fn f (cs.map (gh t))) m:=dT rfl
theorem Sy:iT P io wd ν (.call ⟨.builtin .len,#[x],#[T]⟩) t m KA=wB P m T (gh t x) (G8 KA m):=dT rfl
theorem SA:iT P io wd ν (.call ⟨.builtin .min,#[x,y],#[T,T']⟩) t m KA=qE YK [gh t x,gh t y] (G8 KA m):=dT rfl
theorem Sz:iT P io wd ν (.call ⟨.builtin .max,#[x,y],#[T,T']⟩) t m KA=qE YJ [gh t x,gh t y] (G8 KA m):=dT rfl
theorem Ll:iT P io wd ν (.alloc T) t m KA=zx ν m T (pz P T) KA:=dT rfl
theorem Sw:iT P io wd ν (.box T x) t m KA=zx ν m T (pc (gh t x)) KA:=dT rfl
theorem AE{ps:List (Nat×Operand)}:iT P io wd ν (.buildSlice T n ps.toArray) t m KA=mU P ν m T n (ps.map λq=>(q.1,gh t q.2)) KA:=dT rfl
theorem CG:iT P io wd ν (.makeSlice T x y) t m KA=vt P ν m T (gh t x) (gh t y) KA:=dT rfl
theorem Lt:iT P io wd ν (.store T x y) t m KA=vu P m T (gh t x) (gh t y) KA:=dT rfl
theorem Jf:iT P io wd ν (.call ⟨.builtin .append,#[x,y],#[T,T]⟩) t m KA=gf P ν m T (gh t x) (gh t y) KA:=by
 have:iT P io wd ν (.call ⟨.builtin .append,#[x,y],#[T,T]⟩) t m KA=(T=T/\gf P ν m T (gh t x) (gh t y) KA):=rfl
 simp_all
theorem O5{f:FuncId}{xs:List Operand}:iT P io wd ν (.call ⟨.value (.func f),xs.toArray,Ts⟩) t m KA=(tG P f/\pE P io wd ν f (xs.map (gh t)) m KA):=dT rfl
def Vy(P:Program)(io:Bool)(wd ν:Nat)(p:PV)(ps:List PV)(m:Mem)(K:PV->Mem->Prop):Prop:=match p with
 |.fn f cs=>(∀c∈cs,Ck c=YJ)/\tG P f/\pE P io wd ν f (ps++cs) m K
 |_=>False
theorem Sx{i:Nat}{xs:List Operand}:iT P io wd ν (.call ⟨.value (.tmp i),xs.toArray,Ts⟩) t m KA=Vy P io wd ν (t.getD i .un) (xs.map (gh t)) m KA:=dT rfl
theorem OY:F2 (YH v) KR=KR (.v v):=dT rfl
theorem ZcA{l i o:Nat}:J3 m (.be l i o)=((look m l).bind λmb=>(mb.es[i]?).map (·.drop o)):=by
 unfold look J3
 cases h:m[l]? with
 |none=>grind
 |some x=>cases x<;>simp[h]
theorem R5{x:Option MB}{m:Mem}:look (x::m) 0=x:=by rfl
theorem R4{x:Option MB}{m:Mem}:look (x::m) (n+1)=look m n:=dT rfl
theorem Zco{x:Option MB}{m:Mem}:oG (x::m) 0 mb=YH mb::m:=by simp[oG]
theorem Zcn{x:Option MB}{m:Mem}:oG (x::m) (n+1) mb=x::oG m n mb:=by
 unfold oG;simp
theorem Vl:oG [] 0 mb=[YH mb]:=dT rfl
theorem Vm:oG [] (n+1) mb=YI::oG [] n mb:=by
 rfl
theorem Zcq{α:Type}(a b:α)(as_:List α):(a::as_).set 0 b=b::as_:=dT rfl
theorem Zcp{α:Type}(a b:α)(as_:List α)(n:Nat):(a::as_).set (n+1) b=a::as_.set n b:=dT rfl
theorem ZcJ(c q:PV)(cs qs:List PV):xm (c::cs) 0 (q::qs)=q::xm cs 0 qs:=by rfl
theorem ZcH(cs:List PV):xm cs 0 []=cs:=by simp[xm]
theorem ZcI(c:PV)(cs qs:List PV)(n:Nat):xm (c::cs) (n+1) qs=c::xm cs n qs:=by
 simp only[xm,List.take_succ_cons,List.cons_append]
 grind
theorem Zcz{α:Type}(bs:List α):List.append [] bs=bs:=dT rfl
theorem Zcy{α:Type}(a:α)(as_ bs:List α):List.append (a::as_) bs=a::List.append as_ bs:=dT rfl
theorem Zbf{ν i:Nat}:sig [] ν i=ν+i:=by simp[sig]
theorem Zbh{a ν:Nat}{ρ:List Nat}:sig (a::ρ) ν 0=a:=dT rfl
theorem Zbg{a ν i:Nat}{ρ:List Nat}:sig (a::ρ) ν (i+1)=sig ρ ν i:=by
 unfold sig;simp
theorem EK{α:Type}{f:α->List PV}[hf:dy f]{σ:Nat->Nat}{xs:List α}:rR σ (xs.map f)=xs.map f:=by
 unfold rR;rw[List.map_map];apply Wy;intro x _;have h1:=hf.h x;show(f x).map (rW σ)=f x;generalize f x=cs at h1
 induction cs with
 |nil=>rfl
 |cons c cs ih=>
  rw[WX,ih λq hq=>h1 q (Wk _ hq)]
  congr 1
  have hc:=h1 c Wp;have k1:∀{d:PV},ur d=YJ->uN σ d=d:=λ{d} hd=>by cases d<;>simp_all[ur,uN]
  cases c with
  |fn g ds=>
   simp only[r9,V2]at hc
   simp only[rW]
   congr 1
   have e:ds.map (uN σ)=ds.map id:=Wy λd hd=>k1 (hc d hd)
   simp_all
  |_=>simp_all[r9,ur,rW,uN]
theorem Pr{σ:Nat->Nat}:rR σ []=[]:=dT rfl
theorem LD{σ:Nat->Nat}{c:List PV}{cs:List (List PV)}:rR σ (c::cs)=c.map (rW σ)::rR σ cs:=dT rfl
theorem yy{α:Type}{f:α->List PV}[hf:dy f]{xs:List α}:Zak (xs.map f):=by
 intro cs sL q hq;obtain⟨x,_,rfl⟩:=WE.1 sL;exact hf.h x q hq
theorem Jt{α:Type}{f:α->List PV}[hf:dy f]{xs:List α}:(∀cs∈xs.map f,∀q∈cs,r9 q=YJ)=True:=by
 simp only[eq_iff_iff,iff_true];exact yy
theorem tC{c:PV}(h:r9 c=YJ):eC YK c:=by
 cases c with
 |fn f cs=>
  simp only[r9,V2]at h
  exact⟨rfl,λd hd=>by have:=h d hd;cases d<;>simp_all[ur,Ck]⟩
 |_=>intro h;cases h
theorem B6{c:PV}(h:IA c=YJ):eC YJ c:=by
 cases c<;>first|exact λ_=>h|simp[IA]at h
theorem N8{α:Type}{f:α->List PV}[hf:dy f]{xs:List α}:(∀cs∈xs.map f,∀p∈cs,eC YK p)=True:=by
 simp only[eq_iff_iff,iff_true];intro cs sL q hq;obtain⟨x,_,rfl⟩:=WE.1 sL;exact tC (hf.h x q hq)
theorem N9{α:Type}{f:α->List PV}[hf:qJ f]{xs:List α}:(∀cs∈xs.map f,∀p∈cs,eC YJ p)=True:=by
 simp only[eq_iff_iff,iff_true];intro cs sL q hq;obtain⟨x,_,rfl⟩:=WE.1 sL;exact B6 (hf.h x q hq)
theorem Er{A:MB->Prop}:live m l A=(match look m l with
 |some mb=>A mb
 |none=>False):=mz A
theorem xN{α β:Type}(f:α->β)(xs:List α)(n:Nat):(xs.map f).drop n=(xs.drop n).map f:=List.map_drop.symm
theorem yI{α β:Type}(f:α->β)(xs:List α)(n:Nat):(xs.map f).take n=(xs.take n).map f:=List.map_take.symm
end
section
variable {P:Program} {n0:Nat} {Q:Exit->List PV->Mem->Prop} {t t':List PV} {m m':Mem} {K:List PV->Mem->Prop} {KR:PV->Prop} {KA:PV->Mem->Prop}
theorem rY:rE K Q .normal t m=K t m:=rfl
theorem Db{i:Nat}:rE K Q (.exit i) t m=Q (.exit i) t m:=rfl
theorem EY:rE K Q .ret t m=Q .ret t m:=rfl
theorem qY:uZ id Q .normal t m=Q .normal t m:=rfl
theorem zL{id i:Nat}:uZ id Q (.exit i) t m=if i=id then Q .normal t m else Q (.exit i) t m:=rfl
theorem By:uZ id Q .ret t m=Q .ret t m:=rfl
theorem VR{x y:Code}(h:∀K:List PV->Mem->Prop,(∀t m,qI P n0 y Q t m->K t m)->qI P n0 x (rE K Q) t m):qI P n0 (.seq x y) Q t m:=
 h (λt m=>qI P n0 y Q t m) (λ_ _ h=>h)
theorem Pj(h:qI P n0 c (uZ id Q) t m):qI P n0 (.block id c) Q t m:=h
def Ho(p:PV)(A B:Prop):Prop:=match p with
 |.v (.bool b)=>(b=YJ->A)/\(b=YK->B)
 |_=>False
theorem Pk{c:Operand}{x y:Code}(h:Ho (gh t c) (qI P n0 x Q t m) (qI P n0 y Q t m)):qI P n0 (.cond c x y) Q t m:=by
 unfold Ho at h
 split at h
 ·rename_i b hb
  simp only[qI,hb]
  simp_all
 simp_all
theorem QE{A B:Prop}(h:A):Ho (.v (.bool YJ)) A B:=⟨λ_=>h,λh=>by cases h⟩
theorem QD{A B:Prop}(h:B):Ho (.v (.bool YK)) A B:=⟨λh=>Yj,λ_=>h⟩
theorem Hp{b:Bool}{A B:Prop}(h1:b=YJ->A)(h2:b=YK->B):Ho (.v (.bool b)) A B:=⟨h1,h2⟩
theorem SL(h:Q .normal t m):qI P n0 .skip Q t m:=h
theorem SI{i:Nat}(h:Q (.exit i) t m):qI P n0 (.exit i) Q t m:=h
theorem VQ(h:Q .ret t m):qI P n0 .ret Q t m:=h
theorem LB{ops:List Oper}(h:sP P ops.toArray (Q .normal) ops t m):qI P n0 (.region id ops.toArray YK) Q t m:=.inl h
def N2(ops:List Oper)(K:List PV->Mem->Prop)(g:List LE)(t:List PV)(m:Mem):Prop:=Kj ops g=YJ/\K t m
theorem SG{ops:List Oper}(h1:P.follows .mixedOrders=YJ)(h:lY P 4 m.length [] ops.toArray (N2 ops (Q .normal)) 0 ops [] t m):qI P n0 (.region id ops.toArray YJ) Q t m:=.inl ⟨h1,4,[],by decide,h⟩
theorem Pm{id wd:Nat}{fl:List Nat}{ops:List Oper}(Iu:YL (0<wd)=YJ)(h1:P.follows .mixedOrders=YJ)(h:lY P wd m.length fl ops.toArray (N2 ops (Q .normal)) 0 ops [] t m):qI P n0 (.region id ops.toArray YJ) Q t m:=.inl ⟨h1,wd,fl,X3 Iu,h⟩
theorem Kw{ops:List Oper}{g:List LE}(h1:Kj ops g=YJ)(h2:K t m):N2 ops K g t m:=⟨h1,h2⟩
theorem Pn{σ ο R:Type}{body:σ->Option (σ⊕ο)}[E:bo body]{N:Nat}{s0:σ}{Va:ο->Option R}{r:R}(H:(aD body N s0).bind Va=YH r)(hcut:ru n0 t m (E.T s0) (E.M s0))
 (RD:∀n s,(aD body (n+1) s).bind Va=YH r->∀K:List PV->Mem->Prop,(∀s' t m,(aD body n s').bind Va=YH r->ru n0 t m (E.T s') (E.M s')->K t m)->qI P n0 c (rE K Q) (E.T s) (E.M s)):qI P n0 (.loop c) Q t m:=by
 refine⟨λn t m=>∃s,(aD body n s).bind Va=YH r/\t=E.T s/\m=E.M s,N,E.T s0,E.M s0,hcut,⟨s0,H,rfl,rfl⟩,?_⟩
 rintro n t m ⟨s,hI,rfl,rfl⟩
 cases n with
 |zero=>exact(Hno hI).elim
 |succ n=>grind
/-! Zc5. -/
def jV(P:Program)(T:TypeId):Nat:=match P.underlying T with
 |some (.slice e)=>P.cellsOf e
 |_=>0
theorem tx(h:0<jV P T):∃e,P.underlying T=YH (.slice e)/\jV P T=P.cellsOf e:=by
 unfold jV at *
 grind
theorem mw{α:Type}{xs:List α}{i:Int}{x:α}(h:aB xs i=YH x):0<=i/\xs[i.toNat]?=YH x:=by
 unfold aB at h
 simp_all
theorem FC{α:Type}{xs:List α}{i:Int}{x:α}(h:aB xs i=YH x):0<=i/\i<xs.length/\xs[i.toNat]?=YH x:=by
 obtain⟨h1,h2⟩:=mw h
 grind
theorem Zce{α:Type}{f:α->List PV}{xs:List α}{x:α}{i:Int}{k:IntKind}(h:aB xs i=YH x)(hp:0<jV P T)(hc:(f x).length=jV P T)(hK:KR (.rp (f x))):cL P m T (.sl (xs.map f)) (.v (.int k i)) KR:=by
 obtain⟨h1,h2,h3⟩:=FC h;obtain⟨e,hu,he⟩:=tx hp;rw[he]at hp hc
 have hd:(xs.map f).getD i.toNat []=f x:=by simp_all
 simp only[cL,hu,Wo]
 simp_all
theorem Zcd{α:Type}{f:α->List PV}{xs:List α}{x:α}{T':TK}{i:Int}{k:IntKind}(h:aB xs i=YH x)(hm:look m l=YH ⟨T',k',xs.map f⟩)(hp:0<jV P T)(hk:k'=jV P T)(hK:KR (.be l i.toNat 0)):cL P m T (.ms l) (.v (.int k i)) KR:=by
 obtain⟨h1,h2,h3⟩:=FC h;obtain⟨e,hu,he⟩:=tx hp;rw[he]at hk
 simp only[cL,hu,mz,hm,Wo]
 simp_all
theorem U0{i c:Int}{k:IntKind}(h:uk s i=YH c)(hu:P.underlying T=YH .string)(hK:KR (.v (.int .u8 c))):sF P T (.v (.string s)) (.v (.int k i)) KR:=by
 unfold uk at h
 split at h
 ·rename_i hi
  cases h
  simp only[sF,hu]
  simp_all
 grind
theorem F3{c:Prop}[Decidable c](hc:c)(h:KR (.v v)):F2 (if c then YH v else YI) KR:=by rw[if_pos hc];exact h
theorem Td{α:Type}{f:α->List PV}{xs:List α}{l h:Int}(hok:gg l h xs.length=YJ)(Rq:F7 lo 0=YH l)(hhi:F7 hi xs.length=YH h)(hp:0<jV P T)(hf:∀x,(f x).length=jV P T)(hK:KR (.sl ((cH xs l h).map f))):kK P m T (.sl (xs.map f)) lo hi KR:=by
 obtain⟨e,hu,he⟩:=tx hp;rw[he]at hp hf
 have tF:=X3 hok;simp only[kK,hu,Wo,Rq,hhi];refine⟨tF.1,tF.2.1,tF.2.2,hp,λcs sL=>?_,?_⟩
 ·grind
 ·rw[xN,yI];exact hK
theorem PE{l h:Int}(hok:gg l h s.size=YJ)(Rq:F7 lo 0=YH l)(hhi:F7 hi s.size=YH h)(hu:P.underlying T=YH .string)(hK:KR (.v (.string (Tl s l h)))):kK P m T (.v (.string s)) lo hi KR:=by
 have tF:=X3 hok;simp only[kK,hu,Rq,hhi];exact⟨tF.1,tF.2.1,tF.2.2,hK⟩
/-! Calls. -/
theorem NI{f:FuncId}{io:Bool}{wd ν:Nat}(hs:yB m ps (λqs=>fL P f qs [] r m1))(hw:m1.length<=wd)(hm:∀mb,YH mb∈m1->∀cs∈mb.es,∀p∈cs,eC YJ p)(hg:qK YJ r)(hK:KA (yx (sig [] ν) r) (jz (sig [] ν) ν m1 m)):pE P io wd ν f ps m KA:=
 .inl ⟨r,m1,hs,hw,λmb h cs hc p hp=>.inl (hm mb h cs hc p hp),hg,hK⟩
theorem gv(h:r9 p=YJ):eC YK p/\w9 0 p=true:=by
 refine⟨tC h,?_⟩
 cases p with
 |fn f cs=>
  simp only[r9,V2]at h
  simp only[w9,V2];intro c hc;have:=h c hc
  cases c<;>simp_all[ur,AB]
 |_=>simp_all[r9,ur,w9,AB]
theorem ra{σ:Nat->Nat}(h:r9 p=YJ):rW σ p=p:=by
 have k1:∀{d:PV},ur d=YJ->uN σ d=d:=λ{d} hd=>by cases d<;>simp_all[ur,uN]
 cases p with
 |fn g ds=>
  simp only[r9,V2]at h
  simp only[rW]
  congr 1
  have e:ds.map (uN σ)=ds.map id:=Wy λd hd=>k1 (h d hd)
  simp_all
 |_=>simp_all[r9,ur,rW,uN]
theorem x5{σ:Nat->Nat}(h:Ow p=YJ):yw σ p=p/\sT YK p/\FT 0 p=true:=by
 cases p with
 |ag cs=>
  simp only[Ow,V2]at h
  refine⟨?_,λc hc=>(gv (h c hc)).1,?_⟩
  ·simp only[yw]
   have e:cs.map (rW σ)=cs.map id:=Wy λd hd=>ra (h d hd)
   simp_all
  ·simp only[FT,V2];exact λc hc=>(gv (h c hc)).2
 |tu vs=>simp[Ow]at h
 |v x=>
  have h':r9 (.v x)=true:=h;exact⟨ra (σ:=σ) h',(gv h').1,(gv h').2⟩
 |ud=>
  have h':r9 (.ud)=true:=h;exact⟨ra (σ:=σ) h',(gv h').1,(gv h').2⟩
 |un=>
  have h':r9 (.un)=true:=h;exact⟨ra (σ:=σ) h',(gv h').1,(gv h').2⟩
 |sl es=>
  have h':r9 (.sl es)=true:=h;exact⟨ra (σ:=σ) h',(gv h').1,(gv h').2⟩
 |rp cs=>
  have h':r9 (.rp cs)=true:=h;exact⟨ra (σ:=σ) h',(gv h').1,(gv h').2⟩
 |ms l=>
  have h':r9 (.ms l)=true:=h;exact⟨ra (σ:=σ) h',(gv h').1,(gv h').2⟩
 |ss l a b=>
  have h':r9 (.ss l a b)=true:=h;exact⟨ra (σ:=σ) h',(gv h').1,(gv h').2⟩
 |be l i o=>
  have h':r9 (.be l i o)=true:=h;exact⟨ra (σ:=σ) h',(gv h').1,(gv h').2⟩
 |fn f cs=>
  have h':r9 (.fn f cs)=true:=h;exact⟨ra (σ:=σ) h',(gv h').1,(gv h').2⟩
theorem NH{f:FuncId}{io:Bool}{wd ν:Nat}(hs:fL P f ps [] r m1)(hp:∀p∈ps,Ow p=YJ)(hw:m1.length<=wd)(hm:∀mb,YH mb∈m1->∀cs∈mb.es,∀p∈cs,eC YK p)(hg:qK YK r)(hK:KA (yx (sig [] ν) r) (jz (sig [] ν) ν m1 m)):pE P io wd ν f ps m KA:=by
 refine .inr ⟨[],[],ps,r,m1,.inr rfl,hs,Wu _,X9,?_,λq hq=>⟨(x5 (σ:=id) (hp q hq)).2.1,(x5 (σ:=id) (hp q hq)).2.2⟩,List.nodup_nil,trivial,hm,hg,by simpa[oI]using hK⟩
 have:ps.map (yw (sig [] ν))=ps.map id:=Wy λp h=>(x5 (hp p h)).1
 simp_all
/-! ZeW. -/
theorem Zbp{α:Type}{f:α->List PV}{xs ys:List α}{ν l e k:Nat}{x:PV}(hok:bm (xs.length+ys.length) (P.bytesOf e)=YJ)(hu:P.underlying T=YH (.slice e))(hz:pz P e=YH zc)(wX:pH m x=YH (ys.map f))(hl:look m l=YH ⟨e,k,xs.map f⟩)
 (yQ:zc.length=P.cellsOf e) (hp:0<P.cellsOf e) (hf:∀x,(f x).length=P.cellsOf e) (hk:k=P.cellsOf e) (hK:KA (.ms ν) (oG (m.set l YI) ν ⟨e,k,(xs++ys).map f⟩)):gf P ν m T (.ms l) x KA:=by
 subst hk;have tF:=X3 hok;simp only[gf,hu,hz,wX,mz,hl,Wo]
 simp_all
theorem Zbq{α:Type}{f:α->List PV}{ys:List α}{ν e:Nat}{x:PV}(hok:bm ys.length (P.bytesOf e)=YJ)(hu:P.underlying T=YH (.slice e))(hz:pz P e=YH zc)(wX:pH m x=YH (ys.map f))
 (yQ:zc.length=P.cellsOf e) (hp:0<P.cellsOf e) (hf:∀x,(f x).length=P.cellsOf e) (hK:KA (.ms ν) (oG m ν ⟨e,P.cellsOf e,ys.map f⟩)):gf P ν m T (.v (.slice YI 0 0)) x KA:=by
 have tF:=X3 hok;simp only[gf,hu,hz,wX,Wo]
 simp_all
/-! ru. -/
theorem QO{ρ:Nat->Option Nat}:Dr ρ m m' [] []:=trivial
theorem Um{ρ:Nat->Option Nat}{ps rs:List PV}(h:Dr ρ m m' ps rs):Dr ρ m m' (p::ps) (.un::rs):=⟨.a (.c (.un p)),h⟩
theorem ZbD{ρ:Nat->Option Nat}{ps rs:List PV}(hc:Dm ρ m m' p r)(h:Dr ρ m m' ps rs):Dr ρ m m' (p::ps) (r::rs):=⟨hc,h⟩
theorem QP{ρ:Nat->Option Nat}(h:r9 p=YJ):Dm ρ m m' p p:=.a (.c (.c p h))
theorem ZbE{ρ:Nat->Option Nat}(h:oK ρ m m' p r):Dm ρ m m' p r:=.a (.c h)
theorem Un{ρ:Nat->Option Nat}(h:ry ρ m m' cs ds):Dm ρ m m' (.ag cs) (.ag ds):=.a (.ag cs ds h)
theorem Uh{ρ:Nat->Option Nat}(h:ry ρ m m' cs ds):Fb ρ m m' (.ag cs) (.ag ds):=.ag cs ds h
theorem Zbx{ρ:Nat->Option Nat}(h:oK ρ m m' p r):Fb ρ m m' p r:=.c h
theorem Uo{ρ:Nat->Option Nat}(h:BM ρ m m' cs ds):Dm ρ m m' (.tu cs) (.tu ds):=.tu cs ds h
theorem NO{ρ:Nat->Option Nat}:BM ρ m m' [] []:=trivial
theorem Ui{ρ:Nat->Option Nat}{ps rs:List PV}(hc:Fb ρ m m' p r)(h:BM ρ m m' ps rs):BM ρ m m' (p::ps) (r::rs):=⟨hc,h⟩
theorem QN{ρ:Nat->Option Nat}:ry ρ m m' [] []:=trivial
theorem ZbC{ρ:Nat->Option Nat}{ps rs:List PV}(hc:oK ρ m m' p r)(h:ry ρ m m' ps rs):ry ρ m m' (p::ps) (r::rs):=⟨hc,h⟩
def dq(rs:List (Option Nat))(l:Nat):Option Nat:=(rs[l]?).join
theorem SY{x:Option Nat}:dq (x::rs) 0=x:=by rfl
theorem Jr{x:Option Nat}:dq (x::rs) (l+1)=dq rs l:=rfl
theorem Ul(h:dq rs l=YH k)(hl:YL (l<m'.length)=YJ):oK (dq rs) m m' (.ms k) (.ms l):=.ms l k h (X3 hl)
theorem Uk{l k i o:Nat}(h:dq rs l=YH k)(hl:YL (l<m'.length)=YJ):oK (dq rs) m m' (.be k i o) (.be l i o):=.be l k i o h (X3 hl)
theorem Kn(h:dq rs l=YI)(hl:YL (l<m'.length)=YJ):oK (dq rs) m m' (.v (.slice YI 0 0)) (.ms l):=.Zbc l h (X3 hl)
theorem Ko{α:Type}{f:α->List PV}{ρ:Nat->Option Nat}{c:Nat}:oK ρ m m' (.v (.slice YI 0 c)) (.sl (([]:List α).map f)):=.MQ c
def ZeI(rs:List (Option Nat))(k:Nat):Bool:=rs.all λx=>match x with
 |some j=>!decide (j=k)
 |none=>YJ
theorem BQ(h:ZeI rs k=YJ):dropped (dq rs) m' k:=by
 intro l _ he;unfold dq at he
 cases hl:rs[l]? with
 |none=>simp_all
 |some x=>
  rw[hl]at he
  have he':x=YH k:=he;subst he';have:=V2.1 h _ (VV hl)
  simp_all
theorem Hs{α:Type}{f:α->List PV}[dy f]{xs:List α}{T:TK}(hm:look m k=YH ⟨T,k',xs.map f⟩)(hd:dropped (dq rs) m' k):oK (dq rs) m m' (.ms k) (.sl (xs.map f)):=.fms k ⟨T,k',xs.map f⟩ (jb.1 hm) yy hd
theorem QJ{T:TK}(hm:look m k=YH ⟨T,k',[cs]⟩)(hc:cs.all r9=YJ)(hd:dropped (dq rs) m' k):oK (dq rs) m m' (.be k 0 0) (.rp cs):=by
 have:=oK.fbe (ρ:=dq rs) (m:=m) (m':=m') k 0 0 ⟨T,k',[cs]⟩ cs (jb.1 hm) rfl (V2.1 hc) hd
 simp_all
def u6(ρ:Nat->Option Nat)(m m':Mem)(mb nv:MB):Prop:=Zdz ρ m m' mb nv/\∀k0:Nat,m[k0]?=YH (YH mb)->NV ρ m m' mb nv
def FY:PV->Bool
 |.ms _|.ss ..=>YK
 |_=>YJ
theorem BP{ρ:Nat->Option Nat}(h:nv.T.kd=YI):NV ρ m m' mb nv:=λT hT=>by simp_all
theorem DY{ρ:Nat->Option Nat}:NV ρ m m' mb mb:=λ_ hT _ ds _ _ hi hj _=>.inl ⟨hT,ds,hi,hj⟩
theorem Mm{ρ:Nat->Option Nat}{es:List (List PV)}(h:oK ρ m m' p (.sl es))(hp:FY p=YJ)(iq:es≠[]):p=.sl es:=by
 cases h with
 |c _ _=>rfl
 |MQ c=>simp_all
 |fms=>cases hp
 |fss=>cases hp
theorem ZbB{ρ:Nat->Option Nat}{T:TK}{es tl:List (List PV)}(h:xM ρ m m' es tl)(hn:∀cs∈es,∀p∈cs,FY p=YJ):NV ρ m m' ⟨T,k,es⟩ ⟨T,k',tl⟩:=λT1 hT i ds j l hi hj iq=>by
 obtain⟨cs,h1,h2⟩:=(so h).2 i ds hi;obtain⟨p,h3,h4⟩:=(tv h2).2 j _ hj;have:=Mm h4 (hn cs (VV h1) p (VV h3)) iq
 simp_all
def nT(rs:List (Option Nat))(m m':Mem):List (Option Nat)->Mem->Prop
 |_,[]=>True
 |r::rr,YI::mm=>nT rs m m' rr mm
 |some k::rr,YH nv::mm=>(∃mb,look m k=YH mb/\u6 (dq rs) m m' mb nv)/\nT rs m m' rr mm
 |none::rr,YH nv::mm=>(nv.es=[]/\0<nv.k)/\nT rs m m' rr mm
 |_,_=>False
theorem LK:nT rs m m' rr []:=by unfold nT;simp
theorem Ju{r:Option Nat}(h:nT rs m m' rr mm):nT rs m m' (r::rr) (YI::mm):=h
theorem Jv(h1:look m k=YH mb)(h2:u6 (dq rs) m m' mb nv)(h:nT rs m m' rr mm):nT rs m m' (YH k::rr) (YH nv::mm):=⟨⟨mb,h1,h2⟩,h⟩
theorem LJ{α:Type}{f:α->List PV}{T:TK}(hk:YL (0<k)=YJ)(h:nT rs m m' rr mm):nT rs m m' (YI::rr) (YH ⟨T,k,([]:List α).map f⟩::mm):=⟨⟨rfl,X3 hk⟩,h⟩
theorem zb{α:Type}{f:α->List PV}[dy f]{ρ:Nat->Option Nat}{T:TK}{xs:List α}:u6 ρ m m' ⟨T,k,xs.map f⟩ ⟨T,k,xs.map f⟩:=⟨⟨rfl,rfl,.inl ⟨rfl,yy⟩⟩,λ_ _=>DY⟩
theorem QG{ρ:Nat->Option Nat}{T k:Nat}(h:ry ρ m m' cs ds):u6 ρ m m' ⟨T,k,[cs]⟩ ⟨T,k,[ds]⟩:=⟨⟨rfl,rfl,.inr ⟨h,trivial⟩⟩,λ_ _=>BP rfl⟩
theorem uy{rs:List (Option Nat)}:∀(rr:List (Option Nat)) (mm:Mem),nT rs m m' rr mm->∀l nv,mm[l]?=YH (YH nv)->(∃k mb,dq rr l=YH k/\m[k]?=YH (YH mb)/\u6 (dq rs) m m' mb nv)\/(dq rr l=YI/\nv.es=[]/\0<nv.k)
 |_,[],_,l,nv,h=>by grind
 | [],YI::mm,h,_,_,_=>by unfold nT at h;simp_all
 | [],YH _::mm,h,_,_,_=>by unfold nT at h;simp_all
 |r::rr,YI::mm,h,l,nv,hl=>by
  cases l with
  |zero=>grind
  |succ l=>exact uy rr mm h l nv Yg
 |some k::rr,YH mb::mm,h,l,nv,hl=>by
  cases l with
  |zero=>
   obtain rfl:mb=nv:=by simp_all
   obtain⟨⟨J2,h1,h2⟩,_⟩:=h;exact .inl ⟨k,J2,rfl,jb.1 h1,h2⟩
  |succ l=>exact uy rr mm h.2 l nv Yg
 |none::rr,YH mb::mm,h,l,nv,hl=>by
  cases l with
  |zero=>
   obtain rfl:mb=nv:=by simp_all
   exact .inr ⟨rfl,h.1⟩
  |succ l=>exact uy rr mm h.2 l nv Yg
def Ix:List (Option Nat)->Bool
 | []=>YJ
 |none::rs=>Ix rs
 |some k::rs=>ZeI rs k&&Ix rs
theorem Iy:∀(rs:List (Option Nat)),Ix rs=YJ->∀l l' k,dq rs l=YH k->dq rs l'=YH k->l=l'
 | [],_,l,l',k,h,_=>by simp[dq]at h
 |x::rs,hb,l,l',k,h,h'=>by
  have KF:∀{j:Nat},x=YH k->dq rs j=YH k->False:=by
   rintro j rfl hj;simp only[Ix,V6]at hb
   have:=BQ (m':=[]) hb.1;unfold dq at hj
   cases hl:rs[j]? with
   |none=>simp_all
   |some y=>
    rw[hl]at hj
    have hy:y=YH k:=hj;subst hy;have:=V2.1 hb.1 _ (VV hl)
    simp_all
  have xW:Ix rs=true:=by cases x<;>simp_all[Ix]
  cases l with
  |zero=>
   rw[SY]at h
   cases l' with
   |zero=>rfl
   |succ l'=>exact(KF h (by simpa[Jr]using h')).elim
  |succ l=>
   rw[Jr]at h
   cases l' with
   |zero=>rw[SY]at h';simp_all
   |succ l'=>rw[Iy rs xW l l' k h (by simpa[Jr]using h')]
def vn:Nat->Nat->List (Option Nat)->Mem->Bool
 |0,_,_,_=>YJ
 |_+1,_,_,[]=>YK
 |n+1,i,rs,YI::m=>vn n (i+1) (rs.drop 1) m
 |n+1,i,YH k::rs,YH _::m=>YL (k=i)&&vn n (i+1) rs m
 |_,_,_,_=>YK
theorem yk:∀(n i:Nat) (rs:List (Option Nat)) (m':Mem),vn n i rs m'=YJ->n<=m'.length/\∀l,l<n->sW m' l=YJ->dq rs l=YH (i+l)
 |0,i,rs,m',_=>⟨Wu _,λl hl=>X9⟩
 |n+1,i,rs,[],h=>by simp[vn]at h
 |n+1,i,rs,YI::m,h=>by
  simp only[vn]at h
  obtain⟨h1,h2⟩:=yk n (i+1) (rs.drop 1) m h;refine⟨by simp_all,λl hl sM=>?_⟩
  cases l with
  |zero=>simp[sW]at sM
  |succ l=>
   have:=h2 l X9 (by simpa[sW]using sM)
   cases rs with
   |nil=>simp[dq]at this
   |cons x rs=>
    rw[Jr]
    grind
 |n+1,i,YH k::rs,YH mb::m,h=>by
  simp only[vn,V6,decide_eq_true_eq]at h
  obtain⟨h1,h2⟩:=yk n (i+1) rs m h.2;refine⟨by simp_all,λl hl sM=>?_⟩
  cases l with
  |zero=>rw[SY,h.1];rfl
  |succ l=>
   rw[Jr,show i+(l+1)=i+1+l by omega]
   exact h2 l X9 (by simpa[sW]using sM)
 |n+1,i,YI::rs,YH mb::m,h=>by simp[vn]at h
 |n+1,i,[],YH mb::m,h=>by simp[vn]at h
theorem ZbF(hT:Dr (dq rs) m m' t t')(hM:nT rs m m' rs m')(hi:Ix rs=YJ)(hl:vn n0 0 rs m'=YJ):ru n0 t m t' m':=
 .one ⟨dq rs,hT,λl nv hm=>(uy rs m' hM l nv hm).imp (λ⟨k,mb,a,b,c⟩=>⟨k,mb,a,b,c.1,c.2 k b⟩) id,λl l' k _ _=>Iy rs hi l l' k,λl FI sM=>by
  have:=(yk n0 0 rs m' hl).2 l FI sM
  simp_all,(yk n0 0 rs m' hl).1⟩
end
end Go.Proofs.YtdilaemengjipaaGreatDoor
namespace Go.Proofs.YtdilaemengjipaaGreatDoor
set_option maxRecDepth 10000
open Go.ChangeShapes Go.WideShapes Go.ChangeAt Go.RowKit Go.Deep
variable {p:PV}{x:Value}
section
variable {H:Type} {enc:TypeId×Value->H} {P:Program} {w:World} {base:Nat} {spare:Nat->Bool} {held:Bool}
theorem Qk(a:Addr)(i j:Nat):(a.add i).add j=a.add (i+j):=by
 unfold Addr.add
 by_cases hi:i=0<;>by_cases hj:j=0<;>simp[hi,hj,XG]
end
def Reads(w:World)(ps:List PV)(cs:List Value):Prop:=
 ps.length=cs.length/\∀(j:Nat) (p:PV) (x:Value),ps[j]?=YH p->cs[j]?=YH x->x.oneCell'=YJ/\fg w (λb=>b<w.heap.size) p x
def Zbl(P:Program)(t:TypeId){α:Type}(f:α->List PV)(ok:α->Prop):Prop:=
 ∀{H:Type} {enc:TypeId×Value->H} {w:World} {base:Nat} {spare:Nat->Bool} {held:Bool} {fuel:Nat} {cs:List Value} {x:DataW H×List MemPlace},
  DataW.trod enc P w base spare held fuel t cs=YH x->∃a:α,Reads w (f a) cs/\ok a
section
variable {w:World}
theorem wa(h1:x.oneCell'=YJ)(h:fg w (λb=>b<w.heap.size) p x):Reads w [p] [x]:=by
 refine⟨rfl,λj c y hj hy=>?_⟩
 grind
theorem reads_rep1(h:Reads w [p] [x]):dE w (E1 (λb=>b<w.heap.size) (λ_=>YI) 0) p x:=.c (h.2 0 p x rfl rfl).2
end
section
variable {P:Program}
theorem decP_slice{α:Type}{f:α->List PV}{ok:α->Prop}{t e:TypeId}(ht:P.underlying t=YH (.slice e))(hk:0<P.cellsOf e)(ZfU:Zbl P e f ok):
 Zbl P t (λxs:List α=>[.sl (xs.map f)]) (λxs=>xs.length<=maxLen/\∀y∈xs,ok y):=by
 intro H enc w base spare held fuel cs x h
 rcases open_slice ht h with⟨rfl,_⟩ |⟨a,n,c,m,k,D,Pl,rfl,_,hl,hm,hmm,_,hi⟩
 ·exact⟨[],wa rfl (.nil _ _),by simp,by simp⟩
 have hnm:n<=m:=by grind
 have hex:∀i:_root_.Fin n,∃(a':α) (qu:List Value),ok a'/\Reads w (f a') qu/\w.cells? base (a.add (i*P.cellsOf e)) (P.cellsOf e)=YH qu:=by
  intro i;obtain⟨qu,hc,ME⟩:=hi i X9;obtain⟨a',hr,hok⟩:=ZfU ME
  grind
 obtain⟨g,hg⟩:=W8 hex;obtain⟨cc,AS⟩:=W8 hg;refine⟨Xq g,?_,by grind,λy hy=>by grind⟩
 rcases Nat.eq_zero_or_pos n with h0|gH
 ·subst h0
  rw[List.ofFn_zero];exact wa rfl (.nil _ _)
 have Dt:∀(i:_root_.Fin n) (j:Nat),j<P.cellsOf e->w.cell? (a.add (i*P.cellsOf e+j))=(cc i)[j]?:=by
  intro i j hj;obtain⟨_,_,h3⟩:=World.cells?_some (AS i).2.2;have:=h3 j hj
  rwa[Qk]at this
 have hlen:∀i:_root_.Fin n,(cc i).length=P.cellsOf e:=λi=>(World.cells?_some (AS i).2.2).2.1
 have Kz:w.cell? (a.add (0*P.cellsOf e+0))=YH ((cc ⟨0,gH⟩)[0]' Yg):=by
  rw[Dt ⟨0,gH⟩ 0 hk];simp
 have hs:=World.cell?_spot Kz;have hb:=World.block_lt_of_cell? _ _ Kz;obtain⟨b,off,spot⟩:=a;have ZdQ:∀q,(⟨b,off,YI⟩:Addr).add q=⟨b,off+q,YI⟩:=λq=>by unfold Addr.add;simp
 have Zel:spot=none:=by simpa[Addr.add]using hs
 subst Zel;rw[ZdQ]at hb
 have zl:∀(i:Nat) (ps:List PV),((Xq g).map f)[i]?=YH ps->∃hi:i<n,ps=f (g ⟨i,hi⟩):=by
  simp
 have hu:∀(i:Nat) (ps:List PV) (j:Nat) (p:PV),((Xq g).map f)[i]?=YH ps->ps[j]?=YH p->
  ∃x,w.cell? ⟨b,off+i*P.cellsOf e+j,YI⟩=YH x/\x.oneCell'=YJ/\fg w (λb=>b<w.heap.size) p x:=by
  intro i ps j p KG hp;obtain⟨hi,rfl⟩:=zl i ps KG;have hr:=(AS ⟨i,hi⟩).2.1;have hj:j<P.cellsOf e:=by rw[<-hlen ⟨i,hi⟩,<-hr.1];grind
  have hx:=Dt ⟨i,hi⟩ j hj;rw[ZdQ,<-XG]at hx
  have Cd:j<(cc ⟨i,hi⟩).length:=by simp_all
  rw[VU Cd]at hx
  exact⟨_,hx,hr.2 j p _ hp (VU Cd)⟩
 have h:=fg.sl (w:=w) (S:=λb=>b<w.heap.size) ((Xq g).map f) b off (P.cellsOf e) c (λi j=>(w.cell? ⟨b,off+i*P.cellsOf e+j,YI⟩).getD .nilIface) hb hk Yg hm
  (λi ps KG=>by obtain⟨hi,rfl⟩:=zl i ps KG;rw[(AS ⟨i,hi⟩).2.1.1,hlen])
  (λi ps j p KG hp=>by grind)
  (λi ps j p KG hp=>by grind)
  (λi ps j p KG hp=>by grind)
 simp only[Wo,List.length_ofFn]at h
 exact wa rfl h
theorem CallOk.run{f:FuncId}{args:List PV}{b:Bool}(h:CallOk P f args (vb b) []){w:World}(ht:Dn w (np λ_=>YI)){vs:Array Value}(hl:vs.size=args.length)(ha:∀(i:Nat) (p:PV),args[i]?=YH p->∃x,vs[i]?=YH x/\dE w (E1 (λb=>b<w.heap.size) (λ_=>YI) 0) p x):
 Calls P f vs w λe w'=>e=.returned (.bool b)/\Up w w':=by
 have wG:∀{b':Nat},np (λ_=>YI) b'->False:=by rintro b' ⟨l,B,h,_⟩;cases h
 have hok:Ok w (np λ_=>YI) (E1 (λb=>b<w.heap.size) (λ_=>YI) 0) w []:=
  ⟨Dp.refl _ _,λb h=>h,λl B h=>Yj,λl l' B B' h=>Yj,λl h=>absurd h (Nat.not_lt_zero l),λl B h=>Yj,λl mb h=>Yd,λl B h=>Yj,ht,λ_ _ h=>h.elim⟩
 refine(h (λb=>b<w.heap.size) (λ_=>YI) w vs (λ_ _=>False) hok hl ha).mono ?_
 rintro e w' ⟨v,E',rfl,hk,_,_,_,hr⟩
 cases hr with
 |c hr=>cases hr;exact⟨rfl,⟨hk.up.os,hk.up.tape,hk.up.output,hk.up.size,λb hb=>hk.up.block b hb λh=>wG h⟩⟩
end
end Go.Proofs.YtdilaemengjipaaGreatDoor
namespace Go.Proofs.YtdilaemengjipaaGreatDoor
set_option maxRecDepth 10000
open Go.RowKit
variable {Ey base i k k' l nu r wd ν ν':Nat}{Ji cs ds ps zc:List PV}{KD:List LE->List PV->Mem->Prop}{T T':TypeId}{T2:TK}{b io:Bool}{d:Option Tmp}{e':Exit}{es es2 tl:List (List PV)}{fl:List Nat}{g g':List LE}{hi lo:Option PV}{n y:List PV->Prop}{o:Op}{oo:Oper}{op:BinOp}{ops:Array Oper}{p p' x x' y':PV}{rest:List Oper}{α β:Type}{ρ:Nat->Option Nat}{A B:Option α}{f:α->List PV}
abbrev aE(x:Int):List PV:=[vi x]
abbrev jK(x:ByteArray):List PV:=[vs x]
abbrev BB(x:Bool):List PV:=[vb x]
def ZeD(n:Int):Prop:=(Lit.int .i64 n).wf=YJ
@[ext] structure cq where
 ay:Int
 da:Int
 a8:ByteArray
 deriving DecidableEq
abbrev rH(x:cq):List PV:=[vi x.ay,vi x.da,vs x.a8]
@[ext] structure aT where
 label:cq
 au:ByteArray
 ab:Int
 bH:List Int
 value:Int
 deriving DecidableEq
abbrev bJ(x:aT):List PV:=[vi x.label.ay,vi x.label.da,vs x.label.a8,vs x.au,vi x.ab,.sl (x.bH.map aE),vi x.value]
@[ext] structure bI where
 first:ByteArray
 last:ByteArray
 deriving DecidableEq
abbrev cG(x:bI):List PV:=[vs x.first,vs x.last]
@[ext] structure bL where
 nt:Int
 ay:Int
 nU:Int
 kQ:Int
 deriving DecidableEq
abbrev cI(x:bL):List PV:=[vi x.nt,vi x.ay,vi x.nU,vi x.kQ]
@[ext] structure bK where
 au:ByteArray
 a8:ByteArray
 start:Int
 mP:Int
 uK:Int
 iU:Int
 deriving DecidableEq
abbrev bn(x:bK):List PV:=[vs x.au,vs x.a8,vi x.start,vi x.mP,vi x.uK,vi x.iU]
@[ext] structure aj where
 aA:List bK
 off:List Int
 change:Int
 deriving DecidableEq
abbrev bA(x:aj):List PV:=[.sl (x.aA.map bn),.sl (x.off.map aE),vi x.change]
@[ext] structure av where
 bD:Int
 day:Int
 deriving DecidableEq
abbrev aW(x:av):List PV:=[vi x.bD,vi x.day]
@[ext] structure aq where
 bw:Int
 bj:av
 ab:Int
 deriving DecidableEq
abbrev aC(x:aq):List PV:=[vi x.bw,vi x.bj.bD,vi x.bj.day,vi x.ab]
@[ext] structure bq where
 bw:Int
 aP:Int
 kind:Int
 place:ByteArray
 bj:av
 deriving DecidableEq
abbrev bt(x:bq):List PV:=[vi x.bw,vi x.aP,vi x.kind,vs x.place,vi x.bj.bD,vi x.bj.day]
@[ext] structure az where
 au:ByteArray
 a8:ByteArray
 ay:Int
 ab:Int
 aP:Int
 dW:Int
 aG:List av
 aN:Int
 state:Int
 place:ByteArray
 bB:Int
 deriving DecidableEq
abbrev ba(x:az):List PV:=[vs x.au,vs x.a8,vi x.ay,vi x.ab,vi x.aP,vi x.dW,.sl (x.aG.map aW),vi x.aN,vi x.state,vs x.place,vi x.bB]
@[ext] structure ax where
 aa:aj
 ae:List az
 ar:List aq
 ah:List av
 now:Int
 aH:List bq
 skip:List Int
 bd:Int
 deriving DecidableEq
abbrev fY(x:ax):List PV:=[.sl (x.aa.aA.map bn),.sl (x.aa.off.map aE),vi x.aa.change,.sl (x.ae.map ba),.sl (x.ar.map aC),.sl (x.ah.map aW),vi x.now,.sl (x.aH.map bt),.sl (x.skip.map aE),vi x.bd]
@[ext] structure aU where
 order:Int
 kind:Int
 bz:Int
 aP:Int
 deriving DecidableEq
abbrev bC(x:aU):List PV:=[vi x.order,vi x.kind,vi x.bz,vi x.aP]
@[ext] structure bV where
 kind:Int
 aQ:aT
 order:Int
 bz:Int
 bM:Int
 bj:av
 deriving DecidableEq
abbrev gF(x:bV):List PV:=[vi x.kind,vi x.aQ.label.ay,vi x.aQ.label.da,vs x.aQ.label.a8,vs x.aQ.au,vi x.aQ.ab,.sl (x.aQ.bH.map aE),vi x.aQ.value,vi x.order,vi x.bz,vi x.bM,vi x.bj.bD,vi x.bj.day]
@[ext] structure aL where
 world:ax
 aY:List bI
 aX:List bL
 aM:List Int
 aK:List aT
 lines:List aU
 aF:List bV
 deriving DecidableEq
abbrev lx(x:aL):List PV:=[.sl (x.world.aa.aA.map bn),.sl (x.world.aa.off.map aE),vi x.world.aa.change,.sl (x.world.ae.map ba),.sl (x.world.ar.map aC),.sl (x.world.ah.map aW),vi x.world.now,.sl (x.world.aH.map bt),.sl (x.world.skip.map aE),vi x.world.bd,.sl (x.aY.map cG),.sl (x.aX.map cI),.sl (x.aM.map aE),.sl (x.aK.map bJ),.sl (x.lines.map bC),.sl (x.aF.map gF)]
@[ext] structure GW where
 id:Int
 dest:Int
 deriving DecidableEq
abbrev wD(x:GW):List PV:=[vi x.id,vi x.dest]
@[ext] structure J7 where
 cell:Int
 iU:Int
 held:List GW
 deriving DecidableEq
abbrev yY(x:J7):List PV:=[vi x.cell,vi x.iU,.sl (x.held.map wD)]
@[ext] structure J8 where
 cell:Int
 wait:List GW
 deriving DecidableEq
abbrev yZ(x:J8):List PV:=[vi x.cell,.sl (x.wait.map wD)]
@[ext] structure L9 where
 Zfp:List GW
 Zbv:List J7
 Zcf:List J8
 Zgy:List Int
 now:Int
 deriving DecidableEq
abbrev xI(x:L9):List PV:=[.sl (x.Zfp.map wD),.sl (x.Zbv.map yY),.sl (x.Zcf.map yZ),.sl (x.Zgy.map aE),vi x.now]
@[ext] structure Qf where
 id:Int
 own:Int
 iU:Int
 in_:Int
 box:Bool
 ZcG:Bool
 deriving DecidableEq
abbrev wR(x:Qf):List PV:=[vi x.id,vi x.own,vi x.iU,vi x.in_,vb x.box,vb x.ZcG]
@[ext] structure L8 where
 places:List ByteArray
 Js:List av
 deriving DecidableEq
abbrev xH(x:L8):List PV:=[.sl (x.places.map jK),.sl (x.Js.map aW)]
@[go_sem] theorem tq2:prog.cellsOf 2=1/\prog.bytesOf 2=8/\pz prog 2=YH [.v (YM YN 0)]:=by and_intros<;>kernel_rfl
@[go_sem] theorem tq3:prog.cellsOf 3=1/\prog.bytesOf 3=8/\pz prog 3=YH [.v (YM YN 0)]:=by and_intros<;>kernel_rfl
@[go_sem] theorem tq4:prog.cellsOf 4=1/\prog.bytesOf 4=1/\pz prog 4=YH [.v (.bool YK)]:=by and_intros<;>kernel_rfl
@[go_sem] theorem tq5:prog.cellsOf 5=1/\prog.bytesOf 5=1/\pz prog 5=YH [.v (.int .u8 0)]:=by and_intros<;>kernel_rfl
@[go_sem] theorem tq9:prog.cellsOf 9=1/\prog.bytesOf 9=16/\pz prog 9=YH [.v (.string ⟨#[]⟩)]:=by and_intros<;>kernel_rfl
@[go_sem] theorem ZhK:prog.cellsOf 12=1/\prog.bytesOf 12=8/\pz prog 12=YH [.v (.int .u64 0)]:=by and_intros<;>kernel_rfl
@[go_sem] theorem ZhL:prog.cellsOf 21=1/\prog.bytesOf 21=4/\pz prog 21=YH [.v (.int .i32 0)]:=by and_intros<;>kernel_rfl
@[go_sem] theorem ZhM:prog.cellsOf 22=1/\prog.bytesOf 22=24/\pz prog 22=YH [.v (.slice YI 0 0)]/\jV prog 22=1:=by and_intros<;>kernel_rfl
@[go_sem] theorem ZhN:prog.cellsOf 24=1/\prog.bytesOf 24=24/\pz prog 24=YH [.v (.slice YI 0 0)]/\jV prog 24=6:=by and_intros<;>kernel_rfl
@[go_sem] theorem ZhO:prog.cellsOf 25=1/\prog.bytesOf 25=24/\pz prog 25=YH [.v (.slice YI 0 0)]/\jV prog 25=1:=by and_intros<;>kernel_rfl
@[go_sem] theorem ZhP:prog.cellsOf 26=3/\prog.bytesOf 26=56/\pz prog 26=YH [.v (.slice YI 0 0),.v (.slice YI 0 0),.v (YM YN 0)]/\prog.eqGuardType prog.depth 26=YK/\prog.stoodInHeld 26=false:=by and_intros<;>kernel_rfl
@[go_sem] theorem ZhQ:prog.cellsOf 27=3/\prog.bytesOf 27=56/\pz prog 27=YH [.v (.slice YI 0 0),.v (.slice YI 0 0),.v (YM YN 0)]/\prog.eqGuardType prog.depth 27=YK/\prog.stoodInHeld 27=false:=by and_intros<;>kernel_rfl
@[go_sem] theorem ZhR:prog.cellsOf 28=1/\prog.bytesOf 28=24/\pz prog 28=YH [.v (.slice YI 0 0)]/\jV prog 28=11:=by and_intros<;>kernel_rfl
@[go_sem] theorem ZhS:prog.cellsOf 29=1/\prog.bytesOf 29=24/\pz prog 29=YH [.v (.slice YI 0 0)]/\jV prog 29=4:=by and_intros<;>kernel_rfl
@[go_sem] theorem ZhT:prog.cellsOf 30=1/\prog.bytesOf 30=24/\pz prog 30=YH [.v (.slice YI 0 0)]/\jV prog 30=2:=by and_intros<;>kernel_rfl
@[go_sem] theorem ZhU:prog.cellsOf 31=1/\prog.bytesOf 31=24/\pz prog 31=YH [.v (.slice YI 0 0)]/\jV prog 31=6:=by and_intros<;>kernel_rfl
@[go_sem] theorem ZhV:prog.cellsOf 32=10/\prog.bytesOf 32=192/\pz prog 32=YH [.v (.slice YI 0 0),.v (.slice YI 0 0),.v (YM YN 0),.v (.slice YI 0 0),.v (.slice YI 0 0),.v (.slice YI 0 0),.v (YM YN 0),.v (.slice YI 0 0),.v (.slice YI 0 0),.v (YM YN 0)]/\prog.eqGuardType prog.depth 32=YK/\prog.stoodInHeld 32=false:=by and_intros<;>kernel_rfl
@[go_sem] theorem ZhW:prog.cellsOf 33=10/\prog.bytesOf 33=192/\pz prog 33=YH [.v (.slice YI 0 0),.v (.slice YI 0 0),.v (YM YN 0),.v (.slice YI 0 0),.v (.slice YI 0 0),.v (.slice YI 0 0),.v (YM YN 0),.v (.slice YI 0 0),.v (.slice YI 0 0),.v (YM YN 0)]/\prog.eqGuardType prog.depth 33=YK/\prog.stoodInHeld 33=false:=by and_intros<;>kernel_rfl
@[go_sem] theorem ZhX:prog.cellsOf 34=1/\prog.bytesOf 34=24/\pz prog 34=YH [.v (.slice YI 0 0)]/\jV prog 34=2:=by and_intros<;>kernel_rfl
@[go_sem] theorem ZhY:prog.cellsOf 35=1/\prog.bytesOf 35=24/\pz prog 35=YH [.v (.slice YI 0 0)]/\jV prog 35=4:=by and_intros<;>kernel_rfl
@[go_sem] theorem ZhZ:prog.cellsOf 36=1/\prog.bytesOf 36=24/\pz prog 36=YH [.v (.slice YI 0 0)]/\jV prog 36=7:=by and_intros<;>kernel_rfl
@[go_sem] theorem Zh0:prog.cellsOf 37=1/\prog.bytesOf 37=24/\pz prog 37=YH [.v (.slice YI 0 0)]/\jV prog 37=4:=by and_intros<;>kernel_rfl
@[go_sem] theorem Zh1:prog.cellsOf 38=1/\prog.bytesOf 38=24/\pz prog 38=YH [.v (.slice YI 0 0)]/\jV prog 38=13:=by and_intros<;>kernel_rfl
@[go_sem] theorem Zh2:prog.cellsOf 39=16/\prog.bytesOf 39=336/\pz prog 39=YH [.v (.slice YI 0 0),.v (.slice YI 0 0),.v (YM YN 0),.v (.slice YI 0 0),.v (.slice YI 0 0),.v (.slice YI 0 0),.v (YM YN 0),.v (.slice YI 0 0),.v (.slice YI 0 0),.v (YM YN 0),.v (.slice YI 0 0),.v (.slice YI 0 0),.v (.slice YI 0 0),.v (.slice YI 0 0),.v (.slice YI 0 0),.v (.slice YI 0 0)]/\prog.eqGuardType prog.depth 39=YK/\prog.stoodInHeld 39=false:=by and_intros<;>kernel_rfl
@[go_sem] theorem Zh3:prog.cellsOf 40=16/\prog.bytesOf 40=336/\pz prog 40=YH [.v (.slice YI 0 0),.v (.slice YI 0 0),.v (YM YN 0),.v (.slice YI 0 0),.v (.slice YI 0 0),.v (.slice YI 0 0),.v (YM YN 0),.v (.slice YI 0 0),.v (.slice YI 0 0),.v (YM YN 0),.v (.slice YI 0 0),.v (.slice YI 0 0),.v (.slice YI 0 0),.v (.slice YI 0 0),.v (.slice YI 0 0),.v (.slice YI 0 0)]/\prog.eqGuardType prog.depth 40=YK/\prog.stoodInHeld 40=false:=by and_intros<;>kernel_rfl
@[go_sem] theorem Zh4:prog.cellsOf 41=3/\prog.bytesOf 41=32/\pz prog 41=YH [.v (YM YN 0),.v (YM YN 0),.v (.string ⟨#[]⟩)]/\prog.eqGuardType prog.depth 41=YK/\prog.stoodInHeld 41=false:=by and_intros<;>kernel_rfl
@[go_sem] theorem ZaH:prog.cellsOf 42=3/\prog.bytesOf 42=32/\pz prog 42=YH [.v (YM YN 0),.v (YM YN 0),.v (.string ⟨#[]⟩)]/\prog.eqGuardType prog.depth 42=YK/\prog.stoodInHeld 42=false:=by and_intros<;>kernel_rfl
@[go_sem] theorem Zh5:prog.cellsOf 43=7/\prog.bytesOf 43=88/\pz prog 43=YH [.v (YM YN 0),.v (YM YN 0),.v (.string ⟨#[]⟩),.v (.string ⟨#[]⟩),.v (YM YN 0),.v (.slice YI 0 0),.v (YM YN 0)]/\prog.eqGuardType prog.depth 43=YK/\prog.stoodInHeld 43=false:=by and_intros<;>kernel_rfl
@[go_sem] theorem Zh6:prog.cellsOf 44=7/\prog.bytesOf 44=88/\pz prog 44=YH [.v (YM YN 0),.v (YM YN 0),.v (.string ⟨#[]⟩),.v (.string ⟨#[]⟩),.v (YM YN 0),.v (.slice YI 0 0),.v (YM YN 0)]/\prog.eqGuardType prog.depth 44=YK/\prog.stoodInHeld 44=false:=by and_intros<;>kernel_rfl
@[go_sem] theorem Zh7:prog.cellsOf 45=2/\prog.bytesOf 45=16/\pz prog 45=YH [.v (YM YN 0),.v (YM YN 0)]/\prog.eqGuardType prog.depth 45=YK/\prog.stoodInHeld 45=false:=by and_intros<;>kernel_rfl
@[go_sem] theorem JP:prog.cellsOf 46=2/\prog.bytesOf 46=16/\pz prog 46=YH [.v (YM YN 0),.v (YM YN 0)]/\prog.eqGuardType prog.depth 46=YK/\prog.stoodInHeld 46=false:=by and_intros<;>kernel_rfl
@[go_sem] theorem Zh8:prog.cellsOf 47=13/\prog.bytesOf 47=136/\pz prog 47=YH [.v (YM YN 0),.v (YM YN 0),.v (YM YN 0),.v (.string ⟨#[]⟩),.v (.string ⟨#[]⟩),.v (YM YN 0),.v (.slice YI 0 0),.v (YM YN 0),.v (YM YN 0),.v (YM YN 0),.v (YM YN 0),.v (YM YN 0),.v (YM YN 0)]/\prog.eqGuardType prog.depth 47=YK/\prog.stoodInHeld 47=false:=by and_intros<;>kernel_rfl
@[go_sem] theorem Zh9:prog.cellsOf 48=13/\prog.bytesOf 48=136/\pz prog 48=YH [.v (YM YN 0),.v (YM YN 0),.v (YM YN 0),.v (.string ⟨#[]⟩),.v (.string ⟨#[]⟩),.v (YM YN 0),.v (.slice YI 0 0),.v (YM YN 0),.v (YM YN 0),.v (YM YN 0),.v (YM YN 0),.v (YM YN 0),.v (YM YN 0)]/\prog.eqGuardType prog.depth 48=YK/\prog.stoodInHeld 48=false:=by and_intros<;>kernel_rfl
@[go_sem] theorem Zia:prog.cellsOf 77=2/\prog.bytesOf 77=32/\pz prog 77=YH [.v (.string ⟨#[]⟩),.v (.string ⟨#[]⟩)]/\prog.eqGuardType prog.depth 77=YK/\prog.stoodInHeld 77=false:=by and_intros<;>kernel_rfl
@[go_sem] theorem ZaI:prog.cellsOf 78=2/\prog.bytesOf 78=32/\pz prog 78=YH [.v (.string ⟨#[]⟩),.v (.string ⟨#[]⟩)]/\prog.eqGuardType prog.depth 78=YK/\prog.stoodInHeld 78=false:=by and_intros<;>kernel_rfl
@[go_sem] theorem Zib:prog.cellsOf 80=4/\prog.bytesOf 80=32/\pz prog 80=YH [.v (YM YN 0),.v (YM YN 0),.v (YM YN 0),.v (YM YN 0)]/\prog.eqGuardType prog.depth 80=YK/\prog.stoodInHeld 80=false:=by and_intros<;>kernel_rfl
@[go_sem] theorem ZaJ:prog.cellsOf 81=4/\prog.bytesOf 81=32/\pz prog 81=YH [.v (YM YN 0),.v (YM YN 0),.v (YM YN 0),.v (YM YN 0)]/\prog.eqGuardType prog.depth 81=YK/\prog.stoodInHeld 81=false:=by and_intros<;>kernel_rfl
@[go_sem] theorem Zic:prog.cellsOf 84=4/\prog.bytesOf 84=32/\pz prog 84=YH [.v (YM YN 0),.v (YM YN 0),.v (YM YN 0),.v (YM YN 0)]/\prog.eqGuardType prog.depth 84=YK/\prog.stoodInHeld 84=false:=by and_intros<;>kernel_rfl
@[go_sem] theorem ZaK:prog.cellsOf 85=4/\prog.bytesOf 85=32/\pz prog 85=YH [.v (YM YN 0),.v (YM YN 0),.v (YM YN 0),.v (YM YN 0)]/\prog.eqGuardType prog.depth 85=YK/\prog.stoodInHeld 85=false:=by and_intros<;>kernel_rfl
@[go_sem] theorem Zid:prog.cellsOf 93=11/\prog.bytesOf 93=128/\pz prog 93=YH [.v (.string ⟨#[]⟩),.v (.string ⟨#[]⟩),.v (YM YN 0),.v (YM YN 0),.v (YM YN 0),.v (YM YN 0),.v (.slice YI 0 0),.v (YM YN 0),.v (YM YN 0),.v (.string ⟨#[]⟩),.v (YM YN 0)]/\prog.eqGuardType prog.depth 93=YK/\prog.stoodInHeld 93=false:=by and_intros<;>kernel_rfl
@[go_sem] theorem Zie:prog.cellsOf 94=11/\prog.bytesOf 94=128/\pz prog 94=YH [.v (.string ⟨#[]⟩),.v (.string ⟨#[]⟩),.v (YM YN 0),.v (YM YN 0),.v (YM YN 0),.v (YM YN 0),.v (.slice YI 0 0),.v (YM YN 0),.v (YM YN 0),.v (.string ⟨#[]⟩),.v (YM YN 0)]/\prog.eqGuardType prog.depth 94=YK/\prog.stoodInHeld 94=false:=by and_intros<;>kernel_rfl
@[go_sem] theorem ZgW:prog.cellsOf 114=1/\prog.bytesOf 114=24/\pz prog 114=YH [.v (.slice YI 0 0)]/\jV prog 114=1:=by and_intros<;>kernel_rfl
@[go_sem] theorem ZgX:prog.cellsOf 118=3/\prog.bytesOf 118=40/\pz prog 118=YH [.v (.slice YI 0 0),.v (YM YN 0),.v (YM YN 0)]/\prog.eqGuardType prog.depth 118=YK/\prog.stoodInHeld 118=false:=by and_intros<;>kernel_rfl
@[go_sem] theorem ZgY:prog.cellsOf 119=3/\prog.bytesOf 119=40/\pz prog 119=YH [.v (.slice YI 0 0),.v (YM YN 0),.v (YM YN 0)]/\prog.eqGuardType prog.depth 119=YK/\prog.stoodInHeld 119=false:=by and_intros<;>kernel_rfl
@[go_sem] theorem ZgZ:prog.cellsOf 143=6/\prog.bytesOf 143=64/\pz prog 143=YH [.v (.string ⟨#[]⟩),.v (.string ⟨#[]⟩),.v (YM YN 0),.v (YM YN 0),.v (YM YN 0),.v (YM YN 0)]/\prog.eqGuardType prog.depth 143=YK/\prog.stoodInHeld 143=false:=by and_intros<;>kernel_rfl
@[go_sem] theorem Np:prog.cellsOf 144=6/\prog.bytesOf 144=64/\pz prog 144=YH [.v (.string ⟨#[]⟩),.v (.string ⟨#[]⟩),.v (YM YN 0),.v (YM YN 0),.v (YM YN 0),.v (YM YN 0)]/\prog.eqGuardType prog.depth 144=YK/\prog.stoodInHeld 144=false:=by and_intros<;>kernel_rfl
@[go_sem] theorem Zg0:prog.cellsOf 146=4/\prog.bytesOf 146=32/\pz prog 146=YH [.v (YM YN 0),.v (YM YN 0),.v (YM YN 0),.v (YM YN 0)]/\prog.eqGuardType prog.depth 146=YK/\prog.stoodInHeld 146=false:=by and_intros<;>kernel_rfl
@[go_sem] theorem Nq:prog.cellsOf 147=4/\prog.bytesOf 147=32/\pz prog 147=YH [.v (YM YN 0),.v (YM YN 0),.v (YM YN 0),.v (YM YN 0)]/\prog.eqGuardType prog.depth 147=YK/\prog.stoodInHeld 147=false:=by and_intros<;>kernel_rfl
@[go_sem] theorem Zg1:prog.cellsOf 150=6/\prog.bytesOf 150=56/\pz prog 150=YH [.v (YM YN 0),.v (YM YN 0),.v (YM YN 0),.v (.string ⟨#[]⟩),.v (YM YN 0),.v (YM YN 0)]/\prog.eqGuardType prog.depth 150=YK/\prog.stoodInHeld 150=false:=by and_intros<;>kernel_rfl
@[go_sem] theorem Nr:prog.cellsOf 151=6/\prog.bytesOf 151=56/\pz prog 151=YH [.v (YM YN 0),.v (YM YN 0),.v (YM YN 0),.v (.string ⟨#[]⟩),.v (YM YN 0),.v (YM YN 0)]/\prog.eqGuardType prog.depth 151=YK/\prog.stoodInHeld 151=false:=by and_intros<;>kernel_rfl
@[go_sem] theorem Zg2:prog.cellsOf 221=1/\prog.bytesOf 221=24/\pz prog 221=YH [.v (.slice YI 0 0)]/\jV prog 221=1:=by and_intros<;>kernel_rfl
@[go_sem] theorem Zg3:prog.cellsOf 222=1/\prog.bytesOf 222=8/\pz prog 222=YH [.v (.int .u64 0)]:=by and_intros<;>kernel_rfl
@[go_sem] theorem Zg4:prog.cellsOf 232=1/\prog.bytesOf 232=24/\pz prog 232=YH [.v (.slice YI 0 0)]/\jV prog 232=1:=by and_intros<;>kernel_rfl
@[go_sem] theorem Zg5:prog.cellsOf 282=1/\prog.bytesOf 282=8/\pz prog 282=YH [.v (.int .u64 0)]:=by and_intros<;>kernel_rfl
@[go_sem] theorem Zg6:prog.cellsOf 295=1/\prog.bytesOf 295=4/\pz prog 295=YH [.v (.int .u32 0)]:=by and_intros<;>kernel_rfl
attribute [go_sem] Tryz.underlying2 Tryz.underlying3 Tryz.underlying4 Tryz.underlying5 Tryz.underlying9 Tryz.underlying12 Tryz.underlying21 Tryz.underlying22 Tryz.underlying24 Tryz.underlying25 Tryz.underlying26 Tryz.underlying27 Tryz.underlying28 Tryz.underlying29 Tryz.underlying30 Tryz.underlying31 Tryz.underlying32 Tryz.underlying33 Tryz.underlying34 Tryz.underlying35 Tryz.underlying36 Tryz.underlying37 Tryz.underlying38 Tryz.underlying39 Tryz.underlying40 Tryz.underlying41 Tryz.underlying42 Tryz.underlying43 Tryz.underlying44 Tryz.underlying45 Tryz.underlying46 Tryz.underlying47 Tryz.underlying48 Tryz.underlying77 Tryz.underlying78 Tryz.underlying80 Tryz.underlying81 Tryz.underlying84 Tryz.underlying85 Tryz.underlying93 Tryz.underlying94 Tryz.underlying114 Tryz.underlying118 Tryz.underlying119 Tryz.underlying143 Tryz.underlying144 Tryz.underlying146 Tryz.underlying147 Tryz.underlying150 Tryz.underlying151 Tryz.underlying221 Tryz.underlying222 Tryz.underlying232 Tryz.underlying282 Tryz.underlying295
theorem sV {P : Program} (h : (match P.funcs[k]? with | some f => f.body.isSome && !(f.name == "runtime.NumGoroutine") | none => YK) = YJ) : tG P k := by
 split at h
 ·rename_i f e
  simp only[V6,Bool.not_eq_true']at h
  exact⟨f,e,h.1,h.2⟩
 ·cases h
theorem fb0 : (Wg 185).all (λk => YL (k < 2) || match prog.funcs[k]? with | some f => f.body.isSome && !(f.name == "runtime.NumGoroutine") | none => YK) = true := by kernel_rfl
@[go_sem] theorem fr0(h:2<=k)(h2:k<185):tG prog k:=sV (by
 have:=V2.1 fb0 k (WC.2 h2);rw[X2 X9]at this
 exact this)
theorem fb1 : (Wg 240).all (λk => YL (k < 186) || match prog.funcs[k]? with | some f => f.body.isSome && !(f.name == "runtime.NumGoroutine") | none => YK) = true := by kernel_rfl
@[go_sem] theorem fr1(h:186<=k)(h2:k<240):tG prog k:=sV (by
 have:=V2.1 fb1 k (WC.2 h2);rw[X2 X9]at this
 exact this)
theorem fb2 : (Wg 251).all (λk => YL (k < 241) || match prog.funcs[k]? with | some f => f.body.isSome && !(f.name == "runtime.NumGoroutine") | none => YK) = true := by kernel_rfl
@[go_sem] theorem fr2(h:241<=k)(h2:k<251):tG prog k:=sV (by
 have:=V2.1 fb2 k (WC.2 h2);rw[X2 X9]at this
 exact this)
theorem fb3 : (Wg 301).all (λk => YL (k < 255) || match prog.funcs[k]? with | some f => f.body.isSome && !(f.name == "runtime.NumGoroutine") | none => YK) = true := by kernel_rfl
@[go_sem] theorem fr3(h:255<=k)(h2:k<301):tG prog k:=sV (by
 have:=V2.1 fb3 k (WC.2 h2);rw[X2 X9]at this
 exact this)
theorem fb4 : (Wg 311).all (λk => YL (k < 302) || match prog.funcs[k]? with | some f => f.body.isSome && !(f.name == "runtime.NumGoroutine") | none => YK) = true := by kernel_rfl
@[go_sem] theorem fr4(h:302<=k)(h2:k<311):tG prog k:=sV (by
 have:=V2.1 fb4 k (WC.2 h2);rw[X2 X9]at this
 exact this)
theorem fb5 : (Wg 352).all (λk => YL (k < 320) || match prog.funcs[k]? with | some f => f.body.isSome && !(f.name == "runtime.NumGoroutine") | none => YK) = true := by kernel_rfl
@[go_sem] theorem fr5(h:320<=k)(h2:k<352):tG prog k:=sV (by
 have:=V2.1 fb5 k (WC.2 h2);rw[X2 X9]at this
 exact this)
theorem fb6 : (Wg 372).all (λk => YL (k < 353) || match prog.funcs[k]? with | some f => f.body.isSome && !(f.name == "runtime.NumGoroutine") | none => YK) = true := by kernel_rfl
@[go_sem] theorem fr6(h:353<=k)(h2:k<372):tG prog k:=sV (by
 have:=V2.1 fb6 k (WC.2 h2);rw[X2 X9]at this
 exact this)
theorem fb7 : (Wg 392).all (λk => YL (k < 373) || match prog.funcs[k]? with | some f => f.body.isSome && !(f.name == "runtime.NumGoroutine") | none => YK) = true := by kernel_rfl
@[go_sem] theorem fr7(h:373<=k)(h2:k<392):tG prog k:=sV (by
 have:=V2.1 fb7 k (WC.2 h2);rw[X2 X9]at this
 exact this)
/-! Zde the Pv ZhG not go ZhD. -/
@[congr] theorem Ze8{P:Program}{K:List PV->Mem->Prop}{t:List PV}{t':List PV}{m:Mem}{m':Mem}(GM:t=t')(xS:m=m'):sP P ops K rest t m=sP P ops K rest t' m':=by simp_all
@[congr] theorem Zdw{P:Program}{t:List PV}{t':List PV}{m:Mem}{m':Mem}(GM:t=t')(xS:m=m')(h_g:g=g'):lY P wd base fl ops KD i rest g t m=lY P wd base fl ops KD i rest g' t' m':=by simp_all
@[congr] theorem Zfu{P:Program}{K:List PV->Mem->Prop}{t:List PV}{t':List PV}{m:Mem}{m':Mem}(GM:t=t')(h_p:p=p')(xS:m=m'):nxt P ops K rest t d p m=nxt P ops K rest t' d p' m':=by simp_all
@[congr] theorem Zfs{P:Program}{t:List PV}{t':List PV}{m:Mem}{m':Mem}(GM:t=t')(h_p:p=p')(xS:m=m')(h_g:g=g'):nxd P wd base fl ops KD i rest g t d p m=nxd P wd base fl ops KD i rest g' t' d p' m':=by simp_all
@[congr] theorem ZfC{P:Program}{K:List PV->Mem->Prop}{m:Mem}{m':Mem}{t:List PV}{t':List PV}(xS:m=m')(GM:t=t'):rgo P ops K rest d o m t=rgo P ops K rest d o m' t':=by simp_all
@[congr] theorem Zfy{P:Program}{K:List PV->Mem->Prop}{m:Mem}{m':Mem}{t:List PV}{t':List PV}(xS:m=m')(GM:t=t'):pgo P ops K rest d m t=pgo P ops K rest d m' t':=by simp_all
@[congr] theorem ZfB{P:Program}{m:Mem}{m':Mem}{t:List PV}{t':List PV}(xS:m=m')(GM:t=t'):rge P wd base fl ops KD i rest g oo m t=rge P wd base fl ops KD i rest g oo m' t':=by simp_all
@[congr] theorem Zft{P:Program}{t t':List PV}{ρ:List Nat}{m m':Mem}(GM:t=t')(h_p:p=p')(xS:m=m')(h_n:ν=ν'):nxe P wd base fl ops KD i rest g oo ν t ρ p m=nxe P wd base fl ops KD i rest g oo ν' t' ρ p' m':=by simp_all
@[congr] theorem Ze7{P:Program}{t t':List PV}{m m':Mem}{K:List Nat->PV->Mem->Prop}(h_n:ν=ν')(GM:t=t')(xS:m=m'):Lu P wd ν o t m K=Lu P wd ν' o t' m' K:=by simp_all
@[congr] theorem Zfv{P:Program}{f:FuncId}{m m':Mem}{K:List Nat->PV->Mem->Prop}(h_n:ν=ν')(h_p:ps=Ji)(xS:m=m'):pIO P wd ν f ps m K=pIO P wd ν' f Ji m' K:=by simp_all
@[congr] theorem ZfA{P:Program}{m:Mem}{m':Mem}{t:List PV}{t':List PV}(xS:m=m')(GM:t=t'):rgd P wd base fl ops KD i rest g oo m t=rgd P wd base fl ops KD i rest g oo m' t':=by simp_all
@[congr] theorem Zfx{P:Program}{m:Mem}{m':Mem}{t:List PV}{t':List PV}(xS:m=m')(GM:t=t'):pgd P wd base fl ops KD i rest g oo m t=pgd P wd base fl ops KD i rest g oo m' t':=by simp_all
@[congr] theorem Zdr{b':Bool}{t:List PV}{t':List PV}(h_b:b=b')(GM:t=t'):tB b y n t i=tB b' y n t' i:=by simp_all
@[congr] theorem Zfr{t:List PV}{t':List PV}(h_p:p=p')(GM:t=t'):gdV p i t b y n=gdV p' i t' b y n:=by simp_all
@[congr] theorem ZgP{t:List PV}{t':List PV}(GM:t=t'):gd d t b y n=gd d t' b y n:=by simp_all
@[congr] theorem Zdt{P:Program}{cs:Option (List PV)}{qu:Option (List PV)}{K:PV->Prop}(ZfP:cs=qu):rQ P T cs K=rQ P T qu K:=by simp_all
@[congr] theorem Ze0{P:Program}{y:PV}{K:PV->Prop}(Mx:x=x')(h_y:y=y'):I0 P op T x y K=I0 P op T x' y' K:=by simp_all
@[congr] theorem Zfw{op:UnOp}{K:PV->Prop}(Mx:x=x'):pUn op x K=pUn op x' K:=by simp_all
@[congr] theorem ZcT{P:Program}{m:Mem}{m':Mem}{U:TypeId}{K:PV->Prop}(xS:m=m')(Mx:x=x'):rI P m T U x K=rI P m' T U x' K:=by simp_all
@[congr] theorem ZcW{P:Program}{m:Mem}{m':Mem}{lo':Option PV}{mZ:Option PV}{K:PV->Prop}(xS:m=m')(Mx:x=x')(Zhh:lo=lo')(Zhg:hi=mZ):kK P m T x lo hi K=kK P m' T x' lo' mZ K:=by simp_all
@[congr] theorem Tz{P:Program}{m:Mem}{m':Mem}{K:PV->Prop}(xS:m=m')(Mx:x=x'):kJ P m T x i K=kJ P m' T x' i K:=by simp_all
@[congr] theorem ZcU{P:Program}{K:PV->Prop}(Mx:x=x'):vp P T x i K=vp P T x' i K:=by simp_all
@[congr] theorem TA{P:Program}{m:Mem}{m':Mem}{y:PV}{K:PV->Prop}(xS:m=m')(Mx:x=x')(h_y:y=y'):cL P m T x y K=cL P m' T x' y' K:=by simp_all
@[congr] theorem ZcV{P:Program}{y:PV}{K:PV->Prop}(Mx:x=x')(h_y:y=y'):sF P T x y K=sF P T x' y' K:=by simp_all
@[congr] theorem Ze3{K:PV->Prop}(Mx:x=x'):I3 i x K=I3 i x' K:=by simp_all
@[congr] theorem ZcS{P:Program}{ps:List (Nat×PV)}{Ji:List (Nat×PV)}{K:PV->Prop}(UE:ps=Ji):vo P T ps K=vo P T Ji K:=by simp_all
@[congr] theorem Ze4{P:Program}{m:Mem}{m':Mem}{K:PV->Prop}(xS:m=m')(Mx:x=x'):wB P m T x K=wB P m' T x' K:=by simp_all
@[congr] theorem Zbu{K:PV->Prop}(UE:ps=Ji):qE b ps K=qE b Ji K:=by simp_all
@[congr] theorem ZeZ{ov:Option Value}{ov':Option Value}{K:PV->Prop}(Zhi:ov=ov'):F2 ov K=F2 ov' K:=by simp_all
@[congr] theorem Zfq{P:Program}{qu:List PV}{ds':List PV}{K:PV->Prop}(ZfP:cs=qu)(Zhf:ds=ds'):uP P op T cs ds K=uP P op T qu ds' K:=by simp_all
@[congr] theorem Ze5{m:Mem}{m':Mem}{K:PV->Prop}(xS:m=m')(Mx:x=x'):DF m x K=DF m' x' K:=by simp_all
@[congr] theorem Zdv{y:PV}{z:PV}{z':PV}{K:PV->Prop}(Mx:x=x')(h_y:y=y')(h_z:z=z'):EB x y z K=EB x' y' z' K:=by simp_all
@[congr] theorem Zds{P:Program}{f:FuncId}{m:Mem}{m':Mem}{KA:PV->Mem->Prop}(UE:ps=Ji)(xS:m=m')(Oa:nu=Ey):pE P io wd nu f ps m KA=pE P io wd Ey f Ji m' KA:=by simp_all
@[congr] theorem Ze1{m:Mem}{m':Mem}{ocs:Option (List PV)}{ZeC:Option (List PV)}{KA:PV->Mem->Prop}(Oa:nu=Ey)(xS:m=m')(ZgQ:ocs=ZeC):zx nu m T ocs KA=zx Ey m' T ZeC KA:=by simp_all
@[congr] theorem Qz{P:Program}{m:Mem}{m':Mem}{ps:List (Nat×PV)}{Ji:List (Nat×PV)}{KA:PV->Mem->Prop}(Oa:nu=Ey)(xS:m=m')(UE:ps=Ji):mU P nu m T k ps KA=mU P Ey m' T k Ji KA:=by simp_all
@[congr] theorem Zdu{P:Program}{m:Mem}{m':Mem}{y:PV}{KA:PV->Mem->Prop}(Oa:nu=Ey)(xS:m=m')(Mx:x=x')(h_y:y=y'):vt P nu m T x y KA=vt P Ey m' T x' y' KA:=by simp_all
@[congr] theorem ZcX{P:Program}{m:Mem}{m':Mem}{y:PV}{KA:PV->Mem->Prop}(xS:m=m')(Mx:x=x')(h_y:y=y'):vu P m T x y KA=vu P m' T x' y' KA:=by simp_all
@[congr] theorem Zbt{P:Program}{m:Mem}{m':Mem}{y:PV}{KA:PV->Mem->Prop}(Oa:nu=Ey)(xS:m=m')(Mx:x=x')(h_y:y=y'):gf P nu m T x y KA=gf P Ey m' T x' y' KA:=by simp_all
@[congr] theorem Ze2{P:Program}{m:Mem}{m':Mem}{KA:PV->Mem->Prop}(Oa:nu=Ey)(h_p:p=p')(UE:ps=Ji)(xS:m=m'):Vy P io wd nu p ps m KA=Vy P io wd Ey p' Ji m' KA:=by simp_all
@[congr] theorem Ze6{P:Program}{t:List PV}{t':List PV}{m:Mem}{m':Mem}{KA:PV->Mem->Prop}(Oa:nu=Ey)(GM:t=t')(xS:m=m'):iT P io wd nu o t m KA=iT P io wd Ey o t' m' KA:=by simp_all
@[congr] theorem ZeY{ZeE:List Oper}{K:List PV->Mem->Prop}{t:List PV}{t':List PV}{m:Mem}{m':Mem}(GM:t=t')(xS:m=m'):N2 ZeE K g t m=N2 ZeE K g t' m':=by simp_all
@[congr] theorem Zfz{P:Program}{n0:Nat}{code:Code}{Q:Exit->List PV->Mem->Prop}{t:List PV}{t':List PV}{m:Mem}{m':Mem}(GM:t=t')(xS:m=m'):qI P n0 code Q t m=qI P n0 code Q t' m':=by simp_all
@[congr] theorem Zdx{K:List PV->Mem->Prop}{Q:Exit->List PV->Mem->Prop}{e:Exit}{t:List PV}{t':List PV}{m:Mem}{m':Mem}(GM:t=t')(xS:m=m')(h_e:e=e'):rE K Q e t m=rE K Q e' t' m':=by simp_all
@[congr] theorem ZcR{id:Nat}{Q:Exit->List PV->Mem->Prop}{e:Exit}{t:List PV}{t':List PV}{m:Mem}{m':Mem}(GM:t=t')(xS:m=m')(h_e:e=e'):uZ id Q e t m=uZ id Q e' t' m':=by simp_all
class dt(α:Type) where
 c:α->List PV
instance :dt Int:=⟨aE⟩
instance :dt ByteArray:=⟨jK⟩
instance :dt Bool:=⟨BB⟩
section
variable {P:Program} {n0:Nat} {Q:Exit->List PV->Mem->Prop} {t t':List PV} {m m':Mem} {K:List PV->Mem->Prop} {KR:PV->Prop} {KA:PV->Mem->Prop}
theorem Zfj{σ ο β:Type}{s:σ}{F:σ->Option β}{K:ο->Option β}{r:β}(h:(YH (Sum.inl s)).bind (bk F K)=YH r):F s=YH r:=h
theorem Zdk{σ ο β:Type}{o:ο}{F:σ->Option β}{K:ο->Option β}:(YH (Sum.inr o)).bind (bk F K)=K o:=dT rfl
theorem bsr{α β γ δ:Type}{o:β}{F:α->Option γ}{G:β->Option γ}{K:γ->Option δ}:(bk F G (Sum.inr o)).bind K=(G o).bind K:=dT rfl
theorem bsl{α β γ δ:Type}{o:α}{F:α->Option γ}{G:β->Option γ}{K:γ->Option δ}:(bk F G (Sum.inl o)).bind K=(F o).bind K:=dT rfl
theorem Zc6{G:Prop}{K:α->Option β}{r:β}(h:(cond b A B).bind K=YH r)(hb:b=YJ)(k:A.bind K=YH r->G):G:=k (Hc1 h hb)
theorem Zc7{G:Prop}{K:α->Option β}{r:β}(h:(cond b A B).bind K=YH r)(hb:b=YK)(k:B.bind K=YH r->G):G:=k (Hc2 h hb)
theorem ZdK{c:Bool}(h:tB c y n t i):tB c y n t i:=h
theorem Zgl{i:PV}(h:cL P m T (.sl es) i KR):cL P m T (.sl es) i KR:=h
def Zgq(n bytes:Int):Bool:=YL (0<=n/\n<=1099511627776/\bytes*n<=140737488355328)
theorem mkS{x y:PV}(h:vt P ν m T x y KA):vt P ν m T x y KA:=h
theorem Zcm{T e k ν:Nat}{n b:Int}(hok:Zgq n b=YJ)(hu:P.underlying T=YH (.slice e))(hz:pz P e=YH zc)(hb:(P.bytesOf e:Int)=b)(hc:P.cellsOf e=k)(yQ:zc.length=k)(hp:YL (0<k)=YJ)(hK:KA (.ms ν) (oG m ν ⟨e,k,V7 n.toNat zc⟩)):vt P ν m T (vi n) (vi n) KA:=by
 subst hb hc;have tF:=X3 hok;simp only[vt,hu,hz]
 simp_all
theorem vS{ρ:Nat->Option Nat}:∀{cs:List PV},(∀q∈cs,r9 q=YJ)->ry ρ m m' cs cs
 | [],_=>trivial
 |c::cs,h=>⟨.c c (h c Wp),vS λq hq=>h q (Wk _ hq)⟩
theorem Hu{α:Type}{f:α->List PV}[hf:dy f]{ρ:Nat->Option Nat}:∀{xs:List α},xM ρ m m' (xs.map f) (xs.map f)
 | []=>trivial
 |x::xs=>⟨vS (hf.h x),Hu⟩
theorem tt{α:Type}{f:α->List PV}[hf:dy f]{ρ:Nat->Option Nat}{cs:List PV}{x:α}(h:ry ρ m m' cs (f x)):∀{xs:List α} {n:Nat},xM ρ m m' ((xs.map f).set n cs) ((xs.set n x).map f)
 | [],_=>trivial
 |y::ys,0=>⟨h,Hu⟩
 |y::ys,n+1=>⟨vS (hf.h y),tt h⟩
theorem BO{α:Type}{f:α->List PV}{ρ:Nat->Option Nat}{cs:List PV}{x:α}(h:ry ρ m m' cs (f x)):∀{n:Nat},xM ρ m m' (V7 n cs) ((V7 n x).map f)
 |0=>trivial
 |n+1=>⟨h,BO h⟩
theorem vR{α:Type}{f:α->List PV}[hf:dy f]{ρ:Nat->Option Nat}{cs:List PV}{x:α}(h:ry ρ m m' cs (f x)):∀{xs:List α},xM ρ m m' (xs.map f++[cs]) ((xs++[x]).map f)
 | []=>⟨h,trivial⟩
 |y::ys=>⟨vS (hf.h y),vR h⟩
theorem Hr[dy f]{T k n:Nat}{x:α}{xs:List α}(h:ry ρ m m' cs (f x)):u6 ρ m m' ⟨T,k,(xs.map f).set n cs⟩ ⟨T,k,(xs.set n x).map f⟩:=⟨⟨rfl,rfl,.inr (tt h)⟩,λ_ _=>BP rfl⟩
theorem QH{T k n:Nat}{x:α}(h:ry ρ m m' cs (f x)):u6 ρ m m' ⟨T,k,V7 n cs⟩ ⟨T,k,(V7 n x).map f⟩:=⟨⟨rfl,rfl,.inr (BO h)⟩,λ_ _=>BP rfl⟩
theorem Zby{T k:Nat}(h:xM ρ m m' es tl):u6 ρ m m' ⟨T,k,es⟩ ⟨T,k,tl⟩:=⟨⟨rfl,rfl,.inr h⟩,λ_ _=>BP rfl⟩
theorem ZbA:xM ρ m m' [] []:=trivial
theorem Zbz(h:ry ρ m m' cs ds)(h':xM ρ m m' es tl):xM ρ m m' (cs::es) (ds::tl):=⟨h,h'⟩
theorem QF{T:TK}:u6 ρ m m' ⟨T,k,[]⟩ ⟨T,k,[]⟩:=⟨⟨rfl,rfl,.inr trivial⟩,λ_ _=>DY⟩
theorem QI{T k:Nat}{a b c d:List PV}(h:xM ρ m m' (a::b::es) (c::d::tl)):u6 ρ m m' ⟨T,k,a::b::es⟩ ⟨T,k,c::d::tl⟩:=Zby h
theorem NS[dy f]{T k:Nat}{x:α}{xs:List α}(h:ry ρ m m' cs (f x)):u6 ρ m m' ⟨T,k,xs.map f++[cs]⟩ ⟨T,k,(xs++[x]).map f⟩:=⟨⟨rfl,rfl,.inr (vR h)⟩,λ_ _=>BP rfl⟩
/-! Keyed rows. -/
def FW:Nat->List PV->Option (Nat×Nat)
 |_,[]=>YI
 |j,.ms l::cs=>if cs.all FY=YJ then YH (l,j)else YI
 |_,.ss ..::_=>YI
 |j,_::cs=>FW (j+1) cs
theorem Sc{o l j:Nat}(h:FW o cs=YH (l,j)):∃j0,j=o+j0/\cs[j0]?=YH (.ms l)/\∀(i:Nat) (p:PV),cs[i]?=YH p->i=j0\/FY p=true:=by
 induction cs generalizing o with
 |nil=>cases h
 |cons p cs ih=>
  cases p with
  |ms k=>
   simp only[FW]at h
   split at h
   ·rename_i hc
    simp only[V4,Prod.mk.injEq]at h
    obtain⟨rfl,rfl⟩:=h
    grind
   grind
  |ss a b c=>simp[FW]at h
  |_=>
   have h':FW (o+1) cs=YH (l,j):=h;obtain⟨j0,e,h1,h2⟩:=ih h';refine⟨j0+1,X9,by simpa using h1,λi q hq=>?_⟩
   cases i with
   |zero=>
    right;simp only[List.getElem?_cons_zero,V4]at hq
    subst hq;rfl
   |succ i=>
    rcases h2 i q (by simpa using hq)with h|h
    ·left;omega
    ·exact .inr h
theorem FZ(h:r9 p=YJ):FY p=true:=by
 cases p with
 |ms=>cases h
 |ss=>cases h
 |_=>rfl
def Iz(mb:MB):Prop:=mb.T.kd.isSome=YJ/\∃cs∈mb.es,∃p∈cs,FY p=YK
def kd0(m:Mem):Prop:=∀(l:Nat) (mb:MB),m[l]?=YH (YH mb)->¬Iz mb
def kd1(m:Mem):Prop:=∀(l l':Nat) (mb nv:MB),m[l]?=YH (YH mb)->m[l']?=YH (YH nv)->Iz mb->Iz nv->l=l'
theorem U7:kd0 []:=λ_ _ h=>by simp at h
theorem U8:kd1 []:=λ_ _ _ _ h=>by simp at h
theorem RV{x:Option MB}{m:Mem}(hx:∀mb,x=YH mb->¬Iz mb)(h:kd0 m):kd0 (x::m):=λl mb hl=>by
 cases l with
 |zero=>simp_all
 |succ l=>exact h l mb Yg
theorem Zep{x:Option MB}{m:Mem}(h:kd0 m):kd1 (x::m):=λl l' mb nv h1 h2 a1 a2=>by
 cases l with
 |zero=>
  cases l' with
  |zero=>rfl
  |succ l'=>exact absurd a2 (h l' nv Yg)
 |succ l=>exact absurd a1 (h l mb Yg)
theorem RW{x:Option MB}{m:Mem}(hx:∀mb,x=YH mb->¬Iz mb)(h:kd1 m):kd1 (x::m):=λl l' mb nv h1 h2 a1 a2=>by
 cases l with
 |zero=>simp_all
 |succ l=>
  cases l' with
  |zero=>simp_all
  |succ l'=>exact congrArg Nat.succ (h l l' mb nv Yg Yg a1 a2)
theorem Ma:∀mb,(YI:Option MB)=YH mb->¬Iz mb:=λ_ h=>by cases h
theorem ZaV{t:TypeId}:∀mb,YH (⟨TK.of t,k,es⟩:MB)=YH mb->¬Iz mb:=λmb h a=>by
 cases h
 exact absurd a.1 Ye
theorem Qj[hf:dy f]{T:TK}{xs:List α}:∀mb,YH (⟨T,k,xs.map f⟩:MB)=YH mb->¬Iz mb:=λmb h ⟨_,cs,sL,p,hp,hn⟩=>by
 cases h
 obtain⟨x,_,rfl⟩:=WE.1 sL;rw[FZ (hf.h x p hp)]at hn
 grind
theorem k1{p:Prop}(h:p:=by(repeat(first|exact U7|exact U8|(with_reducible refine RW Ma ?_) |(refine RW ZaV ?_) |(refine RW Qj ?_) |(with_reducible refine RV Ma ?_) |(refine RV ZaV ?_) |(refine RV Qj ?_) |(refine Zep ?_)));(first|done|fail)):p:=h
theorem Mn{t t':TypeId}{n l j:Nat}(h:xM ρ m m' es tl)(hn:es[n]?=YH cs)(ho:∀(i:Nat) (ds:List PV),es[i]?=YH ds->i≠n->∀p∈ds,FY p=YJ)
 (hm:FW 0 cs=YH (l,j)) (h1:kd1 m) {k2:Nat} (hl:look m l=YH ⟨T2,k2,es2⟩) (ht:T2.t=t') {k0:Nat} (xU:m[k0]?=YH (YH ⟨⟨t,YH t'⟩,k,es⟩)):NV ρ m m' ⟨⟨t,YH t'⟩,k,es⟩ ⟨⟨t,YH t'⟩,k',tl⟩:=by
 obtain⟨j0,ej,g1,g2⟩:=Sc hm;rw[We]at ej
 subst ej;intro T1 hT i ds j1 e hi hj iq;have hT':YH t'=YH T1:=hT;obtain⟨Ug,c1,c2⟩:=(so h).2 i ds hi;obtain⟨p,p1,p2⟩:=(tv c2).2 j1 _ hj
 by_cases hms:FY p=YJ
 ·have:=Mm p2 hms iq
  simp_all
 ·right
  have u9:i=n:=by
   rcases Nat.decEq i n with h|h
   ·exact absurd (ho i Ug c1 h p (VV p1)) hms
   omega
  subst u9;rw[hn]at c1
  obtain rfl:=VW c1;have hj1:j1=j:=by
   grind
  subst hj1;rw[g1]at p1
  obtain rfl:=VW p1;have Zgd:∀q',Zbk m l q'->q'=(t,i,j1):=by
   rintro q' ⟨l',nv,T',i',qu,j',a1,a2,a3,a4,rfl⟩;have e:l'=k0:=h1 l' k0 nv _ a1 xU ⟨by grind,_,VV a3,_,VV a4,rfl⟩ ⟨rfl,_,VV hn,_,VV g1,rfl⟩
   subst e;rw[xU]at a1
   obtain rfl:(⟨⟨t,YH t'⟩,k,es⟩:MB)=nv:=by simp_all
   have mZ:i'=i:=by
    rcases Nat.decEq i' i with h|h
    ·have:=ho i' qu a3 h _ (VV a4);grind
    omega
   grind
  generalize hq:PV.sl e=q at p2
  cases p2 with
  |fms _ mk zW hc hd=>
   have:=jb.1 hl;rw[zW]at this
   obtain rfl:mk=⟨T2,k2,es2⟩:=by simp_all
   refine⟨_,l,_,hn,g1,⟨⟨k0,_,t',i,_,j1,xU,rfl,hn,g1,rfl⟩,Zgd⟩,zW,?_,?_,hd⟩
   all_goals simp_all
  |un=>grind
  |c _ h=>cases h
  |ms=>grind
theorem Km[hf:dy f]{t t':TypeId}{k l j k2:Nat}{x:α}{xs:List α}(hm:FW 0 cs=YH (l,j))(h1:kd1 m)(hl:look m l=YH ⟨T2,k2,es2⟩)(ht:T2.t=t')(h:ry ρ m m' cs (f x)):
 u6 ρ m m' ⟨⟨t,YH t'⟩,k,xs.map f++[cs]⟩ ⟨⟨t,YH t'⟩,k,(xs++[x]).map f⟩:=by
 refine⟨⟨rfl,rfl,.inr (vR h)⟩,λk0 xU=>Mn (n:=xs.length) (cs:=cs) (vR h) Ye (λi ds hi iq p hp=>?_) hm h1 hl ht xU⟩
 rcases Wv i xs.length with bU|yM
 ·rw[Wt Yg,Wj]at hi
  obtain⟨y,_,rfl⟩:=Option.map_eq_some_iff.1 hi;exact FZ (hf.h y p hp)
 grind
theorem DX[hf:dy f]{t t':TypeId}{k l j k2 n:Nat}{x:α}{xs:List α}(hn:n<xs.length)(hm:FW 0 cs=YH (l,j))(h1:kd1 m)(hl:look m l=YH ⟨T2,k2,es2⟩)(ht:T2.t=t')(h:ry ρ m m' cs (f x)):
 u6 ρ m m' ⟨⟨t,YH t'⟩,k,(xs.map f).set n cs⟩ ⟨⟨t,YH t'⟩,k,(xs.set n x).map f⟩:=by
 refine⟨⟨rfl,rfl,.inr (tt h)⟩,λk0 xU=>Mn (n:=n) (cs:=cs) (tt h) (List.getElem?_set_self Yg) (λi ds hi iq p hp=>?_) hm h1 hl ht xU⟩
 rw[List.getElem?_set_ne (Ne.symm iq),Wj]at hi
 obtain⟨y,_,rfl⟩:=Option.map_eq_some_iff.1 hi;exact FZ (hf.h y p hp)
theorem NR[hf:dy f]{T:TK}{k n:Nat}{x:α}{xs:List α}(hn:cs.all FY=YJ)(h:ry ρ m m' cs (f x)):u6 ρ m m' ⟨T,k,(xs.map f).set n cs⟩ ⟨T,k,(xs.set n x).map f⟩:=by
 refine⟨⟨rfl,rfl,.inr (tt h)⟩,λ_ _=>ZbB (tt h) λds hds p hp=>?_⟩
 rcases List.mem_or_eq_of_mem_set hds with hds|rfl
 ·obtain⟨y,_,rfl⟩:=WE.1 hds
  exact FZ (hf.h y p hp)
 simp_all
theorem Zgk{i:PV}(h:cL P m T (.ms l) i KR):cL P m T (.ms l) i KR:=h
theorem UZ[dt α]{xs:List α}{x:α}{T':TK}{i:Int}{k:IntKind}(h:aB xs i=YH x)(hm:look m l=YH ⟨T',k',xs.map dt.c⟩)(hp:0<jV P T)(hk:k'=jV P T)(hK:KR (.be l i.toNat 0)):cL P m T (.ms l) (.v (.int k i)) KR:=Zcd h hm hp hk hK
theorem zm{xs:List α}{x:α}{i:Int}(h:aB xs i=YH x):(xs.map f)[i.toNat]?=YH (f x):=by
 rw[Wj,(mw h).2];rfl
theorem PD[dt α]{xs:List α}{l h:Int}(hok:gg l h xs.length=YJ)(hm:look m r=YH ⟨T',k,xs.map dt.c⟩)(Rq:F7 lo 0=YH l)(hhi:F7 hi xs.length=YH h)(hp:0<jV P T)(hk:k=jV P T)(hK:KR (.ss r l.toNat h.toNat)):kK P m T (.ms r) lo hi KR:=by
 obtain⟨e,hu,he⟩:=tx hp;rw[he]at hp hk
 have tF:=X3 hok;simp only[kK,hu,mz,hm,Wo,Rq,hhi]
 simp_all
theorem ZcK[dt α]{xs:List α}{a b:Int}(hm:look m r=YH ⟨T',k,xs.map dt.c⟩):pH m (.ss r a.toNat b.toNat)=YH ((cH xs a b).map dt.c):=by
 have h:=jb.1 hm;simp only[pH,h,xN,yI,cH]
theorem Zay[dt α]{xs:List α}{r k A B:Nat}{a b:Int}(hm:look m r=YH ⟨T',k,xs.map dt.c⟩)(hA:A=a.toNat)(hB:B=b.toNat):pH m (.ss r A B)=YH ((cH xs a b).map dt.c):=by subst hA hB;exact ZcK hm
theorem ZdI(h:cs.all r9=YJ):qK YK (.ag cs):=λc hc=>tC (V2.1 h c hc)
theorem ZbN(h:cs.all IA=YJ):qK YJ (.ag cs):=λc hc=>B6 (V2.1 h c hc)
theorem ZdJ(h:ps.all Ow=YJ):qK YK (.tu ps):=λc hc=>(x5 (σ:=id) (V2.1 h c hc)).2.1
theorem Zgj{s:ByteArray}{i:PV}(h:sF P T (.v (.string s)) i KR):sF P T (.v (.string s)) i KR:=h
theorem ZgF(h:kK P m T x lo hi KR):kK P m T x lo hi KR:=h
theorem Zfm{x y:PV}(h:gf P ν m T x y KA):gf P ν m T x y KA:=h
theorem Zdo{f:FuncId}(h:pE P io wd ν f ps m KA):pE P io wd ν f ps m KA:=h
theorem Zgt{o:Option Value}(h:F2 o KR):F2 o KR:=h
theorem Zer{c:Code}(h:qI P n0 (.loop c) Q t m):qI P n0 (.loop c) Q t m:=h
theorem ZfG(h:ru n0 t m t' m'):ru n0 t m t' m':=h
theorem all_nil{p:α->Prop}:(∀x∈([]:List α),p x)=True:=by simp
theorem all_cons{p:α->Prop}{a:α}{as_:List α}:(∀x∈a::as_,p x)=(p a/\∀x∈as_,p x):=by simp
theorem ZcB:J3 m (.rp cs)=YH cs:=dT rfl
theorem TW[dt α]{xs ys:List α}{ν l e k n b:Nat}(hok:bm (xs.length+ys.length) b=YJ)(hu:P.underlying T=YH (.slice e))(hz:pz P e=YH zc)(hb:P.bytesOf e=b)(hc:P.cellsOf e=n)(hl:look m l=YH ⟨e,k,xs.map dt.c⟩)(wX:pH m x=YH (ys.map dt.c))
 (yQ:zc.length=n) (hp:YL (0<n)=YJ) (hf:∀x:α,(dt.c x).length=n) (hk:k=n) (hK:KA (.ms ν) (oG (m.set l YI) ν ⟨e,k,(xs++ys).map dt.c⟩)):gf P ν m T (.ms l) x KA:=by
 subst hb hc;exact Zbp hok hu hz wX hl yQ (X3 hp) hf hk hK
theorem TV[dt α]{xs ys:List α}{ν l e k n b t':Nat}(hok:bm (xs.length+ys.length) b=YJ)(hy:ys.length=1)(hu:P.underlying T=YH (.slice e))(hz:pz P e=YH zc)(hb:P.bytesOf e=b)(hc:P.cellsOf e=n)(hl:look m l=YH ⟨⟨e,YH t'⟩,k,xs.map dt.c⟩)(wX:pH m x=YH [cs])
 (uL:cs.all OU=YJ) (tD:cs.length=n) (yQ:zc.length=n) (hp:YL (0<n)=YJ) (hk:k=n) (hK:KA (.ms ν) (oG (m.set l YI) ν ⟨⟨e,YH t'⟩,k,xs.map dt.c++[cs]⟩)):gf P ν m T (.ms l) x KA:=by
 subst hk;subst hb;have tF:=X3 hok;rw[hy]at tF
 simp only[gf,hu,hz,wX,mz,hl,Wo,VZ,VY,hc];refine⟨yQ,X3 hp,λds hds=>?_,trivial,trivial,tF.1,tF.2,?_⟩
 ·simp_all
 ·have e:(⟨e,YH t'⟩:TK).P0 [cs]=⟨e,YH t'⟩:=by
   unfold TK.P0 TK.stb
   simp_all
  simp_all
theorem TY[dt α]{ys:List α}{ν e n b:Nat}(hok:bm ys.length b=YJ)(hu:P.underlying T=YH (.slice e))(hz:pz P e=YH zc)(hb:P.bytesOf e=b)(hc:P.cellsOf e=n)(wX:pH m x=YH (ys.map dt.c))
 (yQ:zc.length=n) (hp:YL (0<n)=YJ) (hf:∀x:α,(dt.c x).length=n) (hK:KA (.ms ν) (oG m ν ⟨e,n,ys.map dt.c⟩)):gf P ν m T (.v (.slice YI 0 0)) x KA:=by
 subst hb hc;exact Zbq hok hu hz wX yQ (X3 hp) hf hK
theorem Rs:∀mb,YH mb∈([]:Mem)->∀cs∈mb.es,∀p∈cs,eC b p:=by simp
theorem FJ[dy f]{T:TK}{xs:List α}:∀mb,YH mb∈([YH ⟨T,k,xs.map f⟩]:Mem)->∀cs∈mb.es,∀p∈cs,eC YK p:=by
 intro mb h;simp only[Wf,V4]at h
 subst h;exact of_eq_true N8
theorem AT[qJ f]{T:TK}{xs:List α}:∀mb,YH mb∈([YH ⟨T,k,xs.map f⟩]:Mem)->∀cs∈mb.es,∀p∈cs,eC YJ p:=by
 intro mb h;simp only[Wf,V4]at h
 subst h;exact of_eq_true N9
theorem Oi{x:Option MB}{m:Mem}(h1:∀mb,YH mb∈([x]:Mem)->∀cs∈mb.es,∀p∈cs,eC b p)(h2:∀mb,YH mb∈m->∀cs∈mb.es,∀p∈cs,eC b p):∀mb,YH mb∈(x::m)->∀cs∈mb.es,∀p∈cs,eC b p:=by
 grind
end
theorem ZeR{n:Nat}{qs:List PV}:(TK.of n).st qs=TK.of n:=dT rfl
theorem ZeQ{t t':TypeId}{x:Value}:(TK.mk t (YH t')).st [.v x]=TK.mk t (YH t'):=dT rfl
theorem ZcL{n:Nat}:(TK.of n).P0 es=TK.of n:=dT rfl
attribute [go_sem] ZeR ZeQ ZcL U_z U_s ZcB ZeO ZeN Q8 Q7 ZeH ZeG ZeF MU Mf Zaf VL Q6 Q5 SE VN VM MS Pb SD SC Zad Zae MT RO Ov Pa VK Uz Uy ZbR ZbQ ZbS Pg Pf Mu Uu HQ Uw ZbH Uv Q0 O7 Jg VB VA O8 O6 DI Lm O9 Gk Ls CE Lp CF Lq Gl Lo DH Sy SA Sz Ll Sw AE CG Lt Jf O5 Sx OY ZcA R5 R4 Zco Zcn Vl Vm Zcq Zcp ZcJ ZcH ZcI Zcz Zcy Zbf Zbh Zbg EK Pr LD Jt Er xN yI I0 T3 pUn kJ vp I3 wB qE rQ Dq zx pc vu DF rY qY Db EY zL By Option.bind_some Wo if_true if_false Bool.false_eq_true WX List.map_nil List.toList_toArray beq_self_eq_true ite_self Int.toNat_natCast true_and and_true VY List.nil_append List.append_nil We List.drop_zero List.drop_succ_cons List.take_zero List.take_succ_cons VZ List.cons_append Option.map_some List.replicate_zero Bool.not_true Bool.not_false yx yw rW uN jz mV EB Cy rI F7 Option.map_none vo wE mU chunk wP all_cons all_nil Nat.zero_lt_succ Nat.lt_add_one and_self
end Go.Proofs.YtdilaemengjipaaGreatDoor
