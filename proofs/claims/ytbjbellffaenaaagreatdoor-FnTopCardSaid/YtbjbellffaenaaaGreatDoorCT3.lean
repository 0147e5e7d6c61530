/- A part of the proof of this claim's last theorem. No condition. -/
import Derived.Test.YtbjbellffaenaaaGreatDoorCT2
import Derived.ProofKit
import Derived.Deep.Slices
import Derived.Deep.Fields
import Derived.ChangeOld
import Derived.ChangeSame
set_option linter.all false
set_option maxRecDepth 10000
open Go.Value renaming int->Z
open Go.IntKind renaming i64->Zi
open Go renaming undef->Zj
open Option renaming some->W,none->Y
open Bool renaming true->Ze,false->Zf
open Decidable renaming decide->Zg
open List renaming length->Zm
open _root_ renaming Array->Zo,DecidableEq->X,List->C,Option->L,absurd->Zq
open Go.Proofs.YtbjbellffaenaaaGreatDoor renaming Mem->V,look->Zp
open Go.Proofs.Tryz
open List renaming mem_of_getElem?->VU,getElem?_eq_some_iff->VT,replicate->V9,getElem?_append_left->Wz,take_succ_cons->Xt,cons_append->Xa,map_congr_left->WG,map_cons->WM,mem_cons_of_mem->Wl,mem_cons_self->Wo,all_eq_true->VZ,mem_map->WH,length_map->Wi,ofFn->XD,getElem?_eq_getElem->VS,range->Wj,mem_range->W3,getElem?_map->Wp,length_cons->V0,length_nil->V2,mem_singleton->Wh
open Classical renaming axiomOfChoice->Xk
open Nat renaming add_assoc->XU,zero_le->Ws,lt_or_ge->Wu,zero_add->Wa
open _root_.Array renaming replicate->Xb,getD_eq_getD_getElem?->WA
open Option.some renaming injEq->V8,inj->VV
open Bool renaming and_eq_true->V7
namespace Go.Proofs.YtbjbellffaenaaaGreatDoor
open Go.RowKit
variable {T T':TypeId}{Ts:Zo TypeId}{a:L Addr}{cs ds ps zc:C PV}{fn:Func}{hi lo:L PV}{id k k' l n:Nat}{m1 mm:V}{mb pH:MB}{oo:Oper}{p r:PV}{rr rs:C (L Nat)}{s:ByteArray}{v:Value}{x y:Operand}
def dropped(ρ:Nat->L Nat)(m':V)(k:Nat):Prop:=∀l,vU m' l=Ze->ρ l≠W k
def Zf1(es:C (C PV)):Prop:=∀cs∈es,∀q∈cs,uQ q=Ze
inductive qQ(ρ:Nat->L Nat)(m m':V):PV->PV->Prop
 |un (p:PV):qQ ρ m m' p .un
 |c (p:PV) (h:uQ p=Ze):qQ ρ m m' p p
 |ms (l k:Nat) (h:ρ l=W k) (hl:l<m'.length):qQ ρ m m' (.ms k) (.ms l)
 |ss (l k a b:Nat) (h:ρ l=W k) (hl:l<m'.length):qQ ρ m m' (.ss k a b) (.ss l a b)
 |be (l k i o:Nat) (h:ρ l=W k) (hl:l<m'.length):qQ ρ m m' (.be k i o) (.be l i o)
 |Zg3 (l:Nat) (h:ρ l=Y) (hl:l<m'.length):qQ ρ m m' (.v (.slice Y 0 0)) (.ms l)
 |SB (c:Nat):qQ ρ m m' (.v (.slice Y 0 c)) (.sl [])
 |fms (k:Nat) (mb:MB) (hm:m[k]?=W (W mb)) (hc:Zf1 mb.es) (hd:dropped ρ m' k):qQ ρ m m' (.ms k) (.sl mb.es)
 |fss (k a b:Nat) (mb:MB) (hm:m[k]?=W (W mb)) (hc:Zf1 mb.es) (hd:dropped ρ m' k):qQ ρ m m' (.ss k a b) (.sl ((mb.es.drop a).take (b-a)))
 |fbe (k i o:Nat) (mb:MB) (cs:C PV) (hm:m[k]?=W (W mb)) (hi:mb.es[i]?=W cs) (hc:∀q∈cs,uQ q=Ze) (hd:dropped ρ m' k):qQ ρ m m' (.be k i o) (.rp (cs.drop o))
 |fn (f:FuncId) (cs ds:C PV) (hl:ds.length=cs.length) (h:∀(j:Nat) (p r:PV),cs[j]?=W p->ds[j]?=W r->qQ ρ m m' p r):qQ ρ m m' (.fn f cs) (.fn f ds)
def tQ(ρ:Nat->L Nat)(m m':V):C PV->C PV->Prop
 | [],[]=>True
 |p::ps,r::rs=>qQ ρ m m' p r/\tQ ρ m m' ps rs
 |_,_=>False
inductive JR(ρ:Nat->L Nat)(m m':V):PV->PV->Prop
 |c {p r:PV} (h:qQ ρ m m' p r):JR ρ m m' p r
 |ag (cs ds:C PV) (h:tQ ρ m m' cs ds):JR ρ m m' (.ag cs) (.ag ds)
def FX(ρ:Nat->L Nat)(m m':V):C PV->C PV->Prop
 | [],[]=>True
 |p::ps,r::rs=>JR ρ m m' p r/\FX ρ m m' ps rs
 |_,_=>False
inductive HU(ρ:Nat->L Nat)(m m':V):PV->PV->Prop
 |a {p r:PV} (h:JR ρ m m' p r):HU ρ m m' p r
 |tu (cs ds:C PV) (h:FX ρ m m' cs ds):HU ρ m m' (.tu cs) (.tu ds)
def HZ(ρ:Nat->L Nat)(m m':V):C PV->C PV->Prop
 | [],[]=>True
 |p::ps,r::rs=>HU ρ m m' p r/\HZ ρ m m' ps rs
 |_,_=>False
def Bv(ρ:Nat->L Nat)(m m':V):C (C PV)->C (C PV)->Prop
 | [],[]=>True
 |p::ps,r::rs=>tQ ρ m m' p r/\Bv ρ m m' ps rs
 |_,_=>False
def ZjF(ρ:Nat->L Nat)(m m':V)(mb pH:MB):Prop:=
 pH.T.t=mb.T.t/\pH.k=mb.k/\((pH.es=mb.es/\Zf1 mb.es)\/Bv ρ m m' mb.es pH.es)
def Zhc(m:V)(k:Nat)(q:Key):Prop:=∃(l:Nat) (mb:MB) (T:TypeId) (i:Nat) (cs:C PV) (j:Nat),m[l]?=W (W mb)/\mb.T.kd=W T/\mb.es[i]?=W cs/\cs[j]?=W (PV.ms k)/\q=(mb.T.t,i,j)
def AdU(m:V)(k:Nat)(q:Key):Prop:=Zhc m k q/\∀q',Zhc m k q'->q'=q
def Ua(ρ:Nat->L Nat)(m m':V)(mb pH:MB):Prop:=
 ∀T,pH.T.kd=W T->∀(i:Nat) (ds:C PV) (j:Nat) (es:C (C PV)),pH.es[i]?=W ds->ds[j]?=W (.sl es)->es≠[]->
  (mb.T.kd=W T/\∃cs,mb.es[i]?=W cs/\cs[j]?=W (.sl es))\/
  ∃cs k mk,mb.es[i]?=W cs/\cs[j]?=W (.ms k)/\AdU m k (mb.T.t,i,j)/\m[k]?=W (W mk)/\mk.T.t=T/\mk.es=es/\dropped ρ m' k
structure Zi9(n0:Nat)(ρ:Nat->L Nat)(m m':V):Prop where
 row:∀l pH,m'[l]?=W (W pH)->(∃k mb,ρ l=W k/\m[k]?=W (W mb)/\ZjF ρ m m' mb pH/\Ua ρ m m' mb pH)\/(ρ l=Y/\pH.es=[]/\0<pH.k)
 inj:∀l l' k,vU m' l=Ze->vU m' l'=Ze->ρ l=W k->ρ l'=W k->l=l'
 low:∀l,l<n0->vU m' l=Ze->ρ l=W l
 n0:n0<=m'.length
def Cut(n0:Nat)(t:C PV)(m:V)(t':C PV)(m':V):Prop:=∃ρ:Nat->L Nat,HZ ρ m m' t t'/\Zi9 n0 ρ m m'
inductive tN(n0:Nat):C PV->V->C PV->V->Prop
 |one {t m t' m'} (h:Cut n0 t m t' m'):tN n0 t m t' m'
 |two {t m t1 m1 t' m'} (h:Cut n0 t m t1 m1) (h':tN n0 t1 m1 t' m'):tN n0 t m t' m'
def ub(K:C PV->V->Prop)(Q:Exit->C PV->V->Prop):Exit->C PV->V->Prop
 |.normal,t,m=>K t m
 |e,t,m=>Q e t m
def ym(id:Nat)(Q:Exit->C PV->V->Prop):Exit->C PV->V->Prop
 |.exit i,t,m=>if i=id then Q .normal t m else Q (.exit i) t m
 |e,t,m=>Q e t m
def ZiG(P:Program)(draw:Bool)(ops:Zo Oper)(K:C PV->V->Prop)(t:C PV)(m:V):Prop:=
 match draw with
 |false=>vK P ops K ops.toList t m
 |true=>P.follows .mixedOrders=Ze/\∃wd fl,0<wd/\nP P wd (Zm m) fl ops (λg t m=>PX ops.toList g=Ze/\K t m) 0 ops.toList [] t m
def s7(P:Program)(n0:Nat):Code->(Exit->C PV->V->Prop)->C PV->V->Prop
 |.skip,Q,t,m=>Q .normal t m
 |.seq a b,Q,t,m=>s7 P n0 a (ub (λt m=>s7 P n0 b Q t m) Q) t m
 |.cond c x y,Q,t,m=>match iy t c with
  |.v (.bool b)=>if b=Ze then s7 P n0 x Q t m else s7 P n0 y Q t m
  |_=>False
 |.block id c,Q,t,m=>s7 P n0 c (ym id Q) t m
 |.loop c,Q,t,m=>∃(I:Nat->C PV->V->Prop) (n:Nat) (t0:C PV) (m0:V),tN n0 t m t0 m0/\I n t0 m0/\∀n t m,I n t m->s7 P n0 c (ub (λt m=>∃k t' m',k<n/\tN n0 t m t' m'/\I k t' m') Q) t m
 |.exit i,Q,t,m=>Q (.exit i) t m
 |.ret,Q,t,m=>Q .ret t m
 |.region _ ops draw,Q,t,m=>ZiG P draw ops (Q .normal) t m\/∃t1 m1,tN n0 t m t1 m1/\ZiG P draw ops (Q .normal) t1 m1
 |_,_,_,_=>False
structure Fr where
 w0:World
 O:Nat->Prop
 β0:Nat->L sx
 n0:Nat
 S0:Nat->Prop
 ω0:Nat->Key->Prop
def tP(F:Fr)(t:C PV)(m:V)(a:Act)(w:World):Prop:=
 ∃E,Ok F.w0 F.O E w m/\(∀b,F.S0 b->E.S b)/\SBd F.S0 F.ω0 F.w0 F.O E/\(∀l B,l<F.n0->E.β l=W B->F.β0 l=W B)/\(∀l,l<F.n0->E.used l)/\a.defers=[]/\ue w E t a.tmps
section
variable {w:World} {O:Nat->Prop} {E:Env} {w0:World} {m m':V} {P:Program} {ρ:Nat->L Nat} {n0:Nat} {F:Fr}
def u7(E:Env)(m:V)(ρ:Nat->L Nat)(m':V):Env:=
 { S:=λb=>E.S b\/∃k B,E.β k=W B/\B.z=Zf/\B.b=b/\dropped ρ m' k
   β:=λl=>match m'[l]? with
    |some (W pH)=>match ρ l with
     |some k=>E.β k
     |none=>W ⟨0,0,0,pH.k,pH.T.t,Ze⟩
    |_=>Y
   used:=λl=>l<Zm m'
   ω:=λb q=>E.ω b q\/∃k B,E.β k=W B/\B.z=Zf/\B.b=b/\dropped ρ m' k/\AdU m k q}
theorem lr{B:sx}(h:(u7 E m ρ m').β l=W B):vU m' l=Ze/\((∃k,ρ l=W k/\E.β k=W B)\/(ρ l=Y/\B.z=Ze)):=by
 simp only[u7]at h
 split at h
 ·rename_i pH hm
  refine⟨wS.2 ⟨pH,hm⟩,?_⟩
  grind
 grind
theorem T9{B:sx}(hB:(u7 E m ρ m').β l=W B)(hn:ρ l=Y):B.sv=.slice Y 0 0:=by
 rcases(lr hB).2 with⟨k,h,_⟩ |⟨_,h⟩
 ·grind
 ·simp[sx.sv,h]
theorem FY(hk:Ok w0 O E w m)(h:qQ ρ m m' p r):∀{x:Value},eC w E p x->eC w (u7 E m ρ m') r x:=by
 induction h with
 |un p=>intro x hx;exact .un' x
 |c p h=>intro x hx;exact .c ((hx.toC h).all λb hb=>.inl hb)
 |ms l k h hl=>
  intro x hx
  cases hx with
  |c h=>cases h
  |ms _ _ _ h1 h2=>
   refine .ms _ _ hl h1 λB hB=>?_
   rcases(lr hB).2 with⟨k',e,ph⟩ |⟨e,_⟩
   all_goals grind
 |ss l k a b h hl=>
  intro x hx
  cases hx with
  |c h=>cases h
  |ss _ _ _ _ _ h1 h2=>
   refine .ss _ _ _ _ hl h1 λB hB=>?_
   rcases(lr hB).2 with⟨k',e,ph⟩ |⟨e,_⟩
   all_goals grind
 |be l k i o h hl=>
  intro x hx
  cases hx with
  |c h=>cases h
  |be _ _ _ _ _ h1 h2=>
   refine .be _ _ _ _ hl h1 λB hB=>?_
   rcases(lr hB).2 with⟨k',e,ph⟩ |⟨e,_⟩
   all_goals grind
 |Zg3 l h hl=>
  intro x hx;obtain⟨rfl,h1⟩:=hx.jw;exact .ms _ _ hl h1 λB hB=>(T9 hB h).symm
 |SB c=>
  intro x hx;obtain⟨rfl,_⟩:=hx.jw;exact .c (.nil Y c)
 |fms k mb hm hc hd=>
  intro x hx;obtain⟨B,hB,hb,rfl⟩:=hx.vp hk hm;exact .c (SX hB hb hc (λb hb=>.inl hb) λhz=>.inr ⟨k,B,hB,hz,rfl,hd⟩)
 |fss k a b mb hm hc hd=>
  intro x hx;obtain⟨B,hB,hb,A,c,rfl,C2,hbn,hA⟩:=hx.DF hk hm;exact .c (Hc hB hb hc (λb hb=>.inl hb) (λhz=>.inr ⟨k,B,hB,hz,rfl,hd⟩) C2 hbn hA)
 |fbe k i o mb cs hm hi hc hd=>
  intro x hx;obtain⟨B,hB,hb,hz,rfl⟩:=hx.FA hk hm;obtain⟨cells,m1,m2,m3⟩:=hb.mem hz;have hex:∀j:Nat,∃u:Value,∀p,cs[o+j]?=W p->cells[i*B.k+(o+j)]?=W u/\u.oneCell'=Ze/\eO w (u7 E m ρ m').S p u:=by
   intro j
   cases hj:cs[o+j]? with
   |none=>simp
   |some p=>
    obtain⟨u,u1,u2,u3⟩:=m3 i cs (o+j) p hi hj;refine⟨u,λp' h=>?_⟩
    simp at h
    subst h;exact⟨u1,u2,(u3.toC (hc p (VU hj))).all λb hb=>.inl hb⟩
  obtain⟨f,hf⟩:=Xk hex;refine .c (.rp _ B.b (i*B.k+o) f (.inr ⟨k,B,hB,hz,rfl,hd⟩) (λj p hj=>?_) (λj p hj=>?_) λj p hj=>?_)
  ·rw[cell_of_row w B.b _ cells B.T (0,0) m1,XU];simp_all
  all_goals grind
 |fn f cs ds hl h ih=>
  intro x hx;obtain⟨vs,rfl,hvl,hr⟩:=hx.Kd;refine .fn f ds vs YA λj r x PA xi=>?_
  grind
theorem wH:∀{ps rs:C PV},tQ ρ m m' ps rs->Zm rs=Zm ps/\∀(j:Nat) (r:PV),rs[j]?=W r->∃p,ps[j]?=W p/\qQ ρ m m' p r
 | [],[],_=>⟨rfl,by simp⟩
 | [],_::_,h=>h.elim
 |_::_,[],h=>h.elim
 |p::ps,r::rs,h=>by
  obtain⟨h1,h2⟩:=wH h.2;refine⟨by grind,λj q hq=>?_⟩
  cases j with
  |zero=>obtain rfl:r=q:=by grind
         exact⟨p,rfl,h.1⟩
  |succ j=>grind
theorem Mz(hk:Ok w0 O E w m)(h:JR ρ m m' p r){x:Value}(hx:eC w E p x):eC w (u7 E m ρ m') r x:=by
 cases h with
 |c h=>exact FY hk h hx
 |ag cs ds h=>
  obtain⟨vs,rfl,hl,h1,hr⟩:=hx.si;obtain⟨e1,e2⟩:=wH h;refine .ag _ vs YA h1 λj r x PA xi=>?_
  obtain⟨p,hp,hc⟩:=e2 j r PA;exact FY hk hc (hr j p x hp xi)
theorem IB:∀{ps rs:C PV},FX ρ m m' ps rs->Zm rs=Zm ps/\∀(j:Nat) (r:PV),rs[j]?=W r->∃p,ps[j]?=W p/\JR ρ m m' p r
 | [],[],_=>⟨rfl,by simp⟩
 | [],_::_,h=>h.elim
 |_::_,[],h=>h.elim
 |p::ps,r::rs,h=>by
  obtain⟨h1,h2⟩:=IB h.2;refine⟨by grind,λj q hq=>?_⟩
  cases j with
  |zero=>obtain rfl:r=q:=by grind
         exact⟨p,rfl,h.1⟩
  |succ j=>grind
theorem Za9(hk:Ok w0 O E w m)(h:HU ρ m m' p r){x:Value}(hx:eC w E p x):eC w (u7 E m ρ m') r x:=by
 cases h with
 |a h=>exact Mz hk h hx
 |tu cs ds h=>
  obtain⟨vs,rfl,hl,hr⟩:=hx.AX;obtain⟨e1,e2⟩:=IB h;refine .tu _ vs YA λj r x PA xi=>?_
  obtain⟨p,hp,hc⟩:=e2 j r PA;exact Mz hk hc (hr j p x hp xi)
theorem MF:∀{ps rs:C PV},HZ ρ m m' ps rs->Zm rs=Zm ps/\∀(j:Nat) (r:PV),rs[j]?=W r->∃p,ps[j]?=W p/\HU ρ m m' p r
 | [],[],_=>⟨rfl,by simp⟩
 | [],_::_,h=>h.elim
 |_::_,[],h=>h.elim
 |p::ps,r::rs,h=>by
  obtain⟨h1,h2⟩:=MF h.2;refine⟨by grind,λj q hq=>?_⟩
  cases j with
  |zero=>obtain rfl:r=q:=by grind
         exact⟨p,rfl,h.1⟩
  |succ j=>grind
theorem u6:∀{ps rs:C (C PV)},Bv ρ m m' ps rs->Zm rs=Zm ps/\∀(j:Nat) (r:C PV),rs[j]?=W r->∃p,ps[j]?=W p/\tQ ρ m m' p r
 | [],[],_=>⟨rfl,by simp⟩
 | [],_::_,h=>h.elim
 |_::_,[],h=>h.elim
 |p::ps,r::rs,h=>by
  obtain⟨h1,h2⟩:=u6 h.2;refine⟨by grind,λj q hq=>?_⟩
  cases j with
  |zero=>obtain rfl:r=q:=by grind
         exact⟨p,rfl,h.1⟩
  |succ j=>grind
theorem Ok.cut(hk:Ok w0 O E w m)(h:Zi9 n0 ρ m m'):Ok w0 O (u7 E m ρ m') w m':=by
 refine⟨hk.up,?_,λl B hB hz=>?_,λl l' B B' hB ph hz xB e=>?_,λl hl=>hl,λl B hB=>?_,λl pH Gh=>?_,λl B hB=>wS.1 (lr hB).1,hk.JC,λb q hq=>?_⟩
 ·rintro b (hb|⟨k,B,hB,hz,rfl,_⟩)
  ·exact hk.sz b hb
  ·exact(hk.own k B hB hz).2.1
 ·obtain⟨hl,⟨k,e,ph⟩ |⟨_,xB⟩⟩:=lr hB
  ·obtain⟨a,b,c⟩:=hk.own k B ph hz
   refine⟨a,b,?_⟩;rintro(hS|⟨k2,B2,hB2,IQ,e2,zZ⟩)
   ·grind
   ·have:=hk.inj k k2 B B2 ph hB2 hz IQ e2.symm
    subst this;exact zZ l hl e
  grind
 ·obtain⟨hl,⟨k,e1,h1⟩ |⟨_,h1⟩⟩:=lr hB
  ·obtain⟨Sk,⟨k',e2,h2⟩ |⟨_,h2⟩⟩:=lr ph
   ·have:=hk.inj k k' B B' h1 h2 hz xB e
    subst this;exact h.inj l l' k hl Sk e1 e2
   grind
  grind
 ·have:=(lr hB).1
  obtain⟨mb,hm⟩:=wS.1 this;exact(VT.1 hm).1
 ·rcases h.row l pH Gh with⟨k,mb,hρ,hm,⟨hT,LQ,zq⟩,Zmp⟩ |⟨hρ,h0,iZ⟩
  ·obtain⟨B,hB,hb⟩:=hk.mem k mb hm
   refine⟨B,by simp only[u7];grind,by rw[hb.k,LQ],?_,by rw[hb.T,hT],hb.pos,hb.nc,hb.cm,?_,λhz=>?_,λhz=>?_,λT1 hT1 hz i ds j es x hi hj gL hcx=>?_⟩
   ·rcases zq with⟨e,_⟩ |he
    ·rw[hb.n,e]
    ·rw[hb.n,(u6 he).1]
   ·intro i ds hi
    rcases zq with⟨e,_⟩ |he
    ·rw[e]at hi;exact hb.es i ds hi
    ·obtain⟨cs,tv,hc⟩:=(u6 he).2 i ds hi
     rw[(wH hc).1];exact hb.es i cs tv
   ·have h0:=hb.nil hz
    rcases zq with⟨e,_⟩ |he
    ·grind
    ·have:=(u6 he).1
     grind
   ·obtain⟨cells,m1,m2,m3⟩:=hb.mem hz
    refine⟨cells,m1,m2,λi ds j r hi hj=>?_⟩
    rcases zq with⟨e,vD⟩ |he
    ·rw[e]at hi
     obtain⟨x,x1,x2,x3⟩:=m3 i ds j r hi hj;exact⟨x,x1,x2,.c ((x3.toC (vD ds (VU hi) r (VU hj))).all λb hb=>.inl hb)⟩
    ·obtain⟨cs,tv,hc⟩:=(u6 he).2 i ds hi
     obtain⟨p,hp,hc'⟩:=(wH hc).2 j r hj;obtain⟨x,x1,x2,x3⟩:=m3 i cs j p tv hp;exact⟨x,x1,x2,FY hk hc' x3⟩
   ·rw[hT]
    rcases Zmp T1 hT1 i ds j es hi hj gL with⟨g1,cs,g2,g3⟩ |⟨cs,kk,mk,g1,g2,g3,g4,g5,g6,g7⟩
    ·obtain⟨b,c,k',rW,a1,a2,a3⟩:=hb.key T1 g1 hz i cs j es x g2 g3 gL hcx
     exact⟨b,c,k',rW,a1,.inl a2,a3⟩
    ·obtain⟨Bk,hBk,yw⟩:=hk.mem kk mk g4
     obtain⟨cells,m1,m2,m3⟩:=hb.mem hz;obtain⟨y,y1,y2,y3⟩:=m3 i cs j _ g1 g2;rw[cell_of_row w B.b _ cells B.T (0,0) m1]at hcx
     obtain rfl:y=x:=by grind
     obtain⟨B1,Au,_,rfl⟩:=y3.vp hk g4;obtain rfl:Bk=B1:=by grind
     have PC:Bk.z=false:=yw.ZgO YD;obtain⟨Zhp,n1,n2,n3⟩:=yw.mem PC;refine⟨Bk.b,Bk.c,Bk.k,Zhp,by rw[show Bk.sv=.slice (W ⟨Bk.b,0,Y⟩) Bk.n Bk.c by simp[sx.sv,PC],yw.n,g6],.inr ⟨kk,Bk,hBk,PC,rfl,g7,g3⟩,by rw[<-g5,<-yw.T];omega,n2,yw.pos,by rw[<-g6,<-yw.n];exact yw.nc,yw.cm,λe he=>?_⟩
     rw[<-g6]at he
     obtain⟨i1,hi1⟩:=List.getElem?_of_mem he;exact yw.es i1 e hi1
  ·refine⟨⟨0,0,0,pH.k,pH.T.t,Ze⟩,by simp only[u7];grind,rfl,by grind,rfl,iZ,Nat.le_refl _,Ws _,by grind,λ_=>h0,λh=>YM,λ_ _ h=>by cases h⟩
 ·rcases hq with hq|⟨k,B,hB,hz,rfl,hd,ha⟩
  ·refine⟨.inl (hk.ow b q hq).1,λq' hq'=>?_⟩
   rcases hq' with h'|⟨k,B,hB,hz,rfl,_⟩
   ·exact(hk.ow b q hq).2 q' h'
   ·exact Zq (hk.ow _ q hq).1 (hk.own k B hB hz).2.2
  ·refine⟨.inr ⟨k,B,hB,hz,rfl,hd⟩,λq' hq'=>?_⟩
   rcases hq' with h'|⟨k2,B2,hB2,IQ,e2,_,ha2⟩
   ·exact Zq (hk.ow _ q' h').1 (hk.own k B hB hz).2.2
   ·have:=hk.inj k2 k B2 B hB2 hB IQ hz e2
    subst this;exact ha.2 q' ha2.1
theorem tP.cut{t t':C PV}{a:Act}(h:tP F t m a w)(hc:Cut F.n0 t m t' m'):tP F t' m' a w:=by
 obtain⟨E,hk,C6,D8,Qa,hu0,hd,ht⟩:=h;obtain⟨ρ,h1,h2⟩:=hc;obtain⟨e1,e2⟩:=MF h1;refine⟨u7 E m ρ m',hk.cut h2,λb hb=>.inl (C6 b hb),⟨λb hb=>?_,λb q hb=>?_⟩,λl B hl hB=>?_,λl hl=>Nat.lt_of_lt_of_le hl h2.n0,hd,by rw[ht.1,e1],λi r hr=>?_⟩
 ·rcases hb with hb|⟨k,B,hB,hz,rfl,_⟩
  ·exact D8.1 b hb
  ·rcases(hk.own k B hB hz).1 with h|h
   all_goals grind
 ·rcases hb with hb|⟨k,B,hB,hz,rfl,_⟩
  ·exact D8.2 b q hb
  ·rcases(hk.own k B hB hz).1 with h|h
   all_goals grind
 ·obtain⟨vE,⟨k,e,ph⟩ |⟨e,_⟩⟩:=lr hB
  ·rw[h2.low l hl vE]at e
   grind
  ·rw[h2.low l hl vE]at e;cases e
 ·obtain⟨p,hp,C4⟩:=e2 i r hr
  exact Za9 hk C4 (ht.2 i p hp)
theorem tP.Zeq{t t':C PV}{a:Act}{n0:Nat}(hc:tN n0 t m t' m')(hn:F.n0=n0)(h:tP F t m a w):tP F t' m' a w:=by
 subst hn
 induction hc with
 |one hc=>exact h.cut hc
 |two hc _ ih=>exact ih (h.cut hc)
theorem Zaf{c:Code}{Q:Exit->Act->World->Prop}(I:Nat->Act->World->Prop)(round:∀n a w,I n a w->c.wp P (Exit.then (λa' w'=>∃k,k<n/\I k a' w') Q) a w){a:Act}{w:World}(h0:I n a w):(Code.loop c).wp P Q a w:=by
 intro b k cs;have key:∀n a w,I n a w->∃e a' w',Q e a' w'/\Arrives P (lone (b.at a (.code c::.inLoop c::k)) cs w) b k cs e a' w':=by
  intro n
  induction n using Nat.strongRecOn with
  |_ n ih=>
   intro a w hI;obtain⟨e,TM,Zag,hq,M8⟩:=round n a w hI b (.inLoop c::k) cs
   cases e with
   |normal=>
    obtain⟨j,bD,ZjT⟩:=hq;obtain⟨Zl4,ZlI,Znn,Zkn,ZeH⟩:=ih j bD TM Zag ZjT;exact⟨Zl4,ZlI,Znn,Zkn,.of_steps (Steps.trans M8 (.one step_inLoop)) ZeH⟩
   |exit id=>exact⟨_,TM,Zag,hq,.pass (x:=.inLoop c) rfl (λ_ _=>.inl YE) M8⟩
   |goto l=>exact⟨_,TM,Zag,hq,.pass (x:=.inLoop c) rfl (λ_ _=>.inl YE) M8⟩
   |ret=>exact⟨_,TM,Zag,hq,.pass (x:=.inLoop c) rfl (λ_ _=>.inl YE) M8⟩
   |panic ch=>exact⟨_,TM,Zag,hq,.pass (x:=.inLoop c) rfl (λ_ _=>.inl YE) M8⟩
   |outgrown=>exact⟨_,TM,Zag,hq,.pass (x:=.inLoop c) rfl (λ_ _=>.inl YE) M8⟩
 obtain⟨e,a',w',hq,M8⟩:=key n a w h0;exact⟨e,a',w',hq,.of_steps (.one step_loop) M8⟩
def Zce(F:Fr)(Q:Exit->C PV->V->Prop):Exit->Act->World->Prop:=λe a w=>∃t m,Q e t m/\tP F t m a w
theorem Jm{ops:Zo Oper}{draw:Bool}{Q:Exit->C PV->V->Prop}{t:C PV}{m:V}{a:Act}{w:World}(h:ZiG P draw ops (Q .normal) t m)(hr:tP F t m a w):(Code.region id ops draw).wp P (Zce F Q) a w:=by
 obtain⟨E,hk,C6,D8,Qa,hu0,hd,ht⟩:=hr
 cases draw with
 |false=>
  refine wp_region_list (AM ops.toList t m E w a hk hd ht h ?_);intro t m E' w' a' hK h1 hx h2 h3;exact⟨t,m,hK,E',h1,λb hb=>hx.S b (C6 b hb),Zdk hk D8 hx,λl B hl hB=>Qa l B hl (hx.β l B (hu0 l hl) hB),λl hl=>hx.used l (hu0 l hl),h2,h3⟩
 |true=>
  obtain⟨hf,wd,fl,C9,hp⟩:=h;obtain⟨as_,gs,h1,h2,⟨Zmh,hK⟩,tV⟩:=Jf ops.toList 0 [] t m hp;have CC:ZgF P wd ops.toList as_ gs t m:=⟨h1,h2,Zmh,λk o hko=>by
   simp_all⟩
  have hu:Ok F.w0 F.O E { w with drawn:=w.drawn+1} m/\Ext w { w with drawn:=w.drawn+1} E E:=hk.drew 1
  refine wp_region_any hf ?_;have hre:∀(j:Nat),(Xb ops.size Zf).getD j Zf=false:=λj=>by
   rw[WA]
   grind
  have Zj8:(λj=>(Xb ops.size Zf).getD j Zf)=λ_=>false:=funext hre
  have key:=MM (w0:=F.w0) (O:=F.O) (S0:=F.S0) (ω0:=F.ω0) C9 CC (J:=λE=>(∀l B,l<F.n0->E.β l=W B->F.β0 l=W B)/\∀l,l<F.n0->E.used l)
   (λw w' E E' hx hJ=>⟨λl B hl hB=>hJ.1 l B hl (hx.β l B (hJ.2 l hl) hB),λl hl=>hx.used l (hJ.2 l hl)⟩) (K:=Q .normal) (Q:=Zce F Q) hK
   (λt m a w E hK hk h1 h2 hd ht hJ=>⟨t,m,hK,E,hk,h1,h2,hJ.1,hJ.2,hd,ht⟩) ops.size (Xb ops.size Zf) a _ E YE (by
    unfold unl
    grind) (by
    intro j o hj hL
    simp_all) (by rw[Zj8,Ho _ _ _ (λ_=>rfl)];exact hu.1) C6 D8 hd (by rw[Zj8,Hq _ _ _ (λ_=>rfl)];exact ht.ext hu.2)
    (λl hl=>.inl (hk.used l hl)) ⟨Qa,hu0⟩
  omega
theorem tB:∀(c:Code) (Q:Exit->C PV->V->Prop) (t:C PV) (m:V) (a:Act) (w:World),s7 P F.n0 c Q t m->tP F t m a w->c.wp P (Zce F Q) a w
 |.skip,Q,t,m,a,w,h,hr=>wp_skip ⟨t,m,h,hr⟩
 |.seq x y,Q,t,m,a,w,h,hr=>by
  refine wp_seq (Code.wp_mono ?_ (tB x _ t m a w h hr));rintro e a w ⟨t,m,hq,hr⟩
  cases e with
  |normal=>exact tB y Q t m a w hq hr
  |_=>exact⟨t,m,hq,hr⟩
 |.cond c x y,Q,t,m,a,w,h,hr=>by
  simp only[s7]at h
  split at h
  ·rename_i b hb
   have PA:=hr;obtain⟨E,hk,_,_,_,_,hd,ht⟩:=PA;have hv:=BC ht c;rw[hb]at hv
   have hv:=hv.jw.1
   cases b with
   |true=>exact wp_cond_true hv (tB x Q t m a w YD hr)
   |false=>exact wp_cond_false hv (tB y Q t m a w YD hr)
  grind
 |.block id c,Q,t,m,a,w,h,hr=>by
  refine wp_block (Code.wp_mono ?_ (tB c _ t m a w h hr));rintro e a w ⟨t,m,hq,hr⟩
  cases e with
  |exit i=>
   simp only[Exit.inBlock];simp only[ym]at hq
   split
   ·rename_i hi;rw[if_pos hi]at hq;exact⟨t,m,hq,hr⟩
   ·rename_i hi;rw[if_neg hi]at hq;exact⟨t,m,hq,hr⟩
  |_=>exact⟨t,m,hq,hr⟩
 |.loop c,Q,t,m,a,w,h,hr=>by
  obtain⟨I,n,t0,m0,hcut,hI,ZbQ⟩:=h;refine Zaf (λn a w=>∃t m,I n t m/\tP F t m a w) ?_ ⟨t0,m0,hI,tP.Zeq hcut rfl hr⟩
  rintro n a w ⟨t,m,hI,hr⟩;refine Code.wp_mono ?_ (tB c _ t m a w (ZbQ n t m hI) hr);rintro e a w ⟨t,m,hq,hr⟩
  cases e with
  |normal=>
   obtain⟨k,t',m',bD,hcut,hI⟩:=hq;exact⟨k,bD,t',m',hI,tP.Zeq hcut rfl hr⟩
  |_=>exact⟨t,m,hq,hr⟩
 |.exit i,Q,t,m,a,w,h,hr=>wp_exit ⟨t,m,h,hr⟩
 |.ret,Q,t,m,a,w,h,hr=>wp_ret ⟨t,m,h,hr⟩
 |.region id ops draw,Q,t,m,a,w,h,hr=>by
  rcases h with h|⟨t1,m1,hc,h⟩
  ·exact Jm h hr
  ·exact Jm h (tP.Zeq hc rfl hr)
 |.scope _,_,_,_,_,_,h,_=>h.elim
 |.label _,_,_,_,_,_,h,_=>h.elim
 |.goto _,_,_,_,_,_,h,_=>h.elim
 |.rangeFunc ..,_,_,_,_,_,h,_=>h.elim
 |.refuse _,_,_,_,_,_,h,_=>h.elim
def Vu(P:Program):C ResultVar->C PV->V->(C PV->Prop)->Prop
 | [],_,_,K=>K []
 |.tmp i::rest,t,m,K=>Vu P rest t m λps=>K (t.getD i .un::ps)
 |.cell i T::rest,t,m,K=>uw P T (PG m (t.getD i .un)) λp=>Vu P rest t m λps=>K (p::ps)
def Zfq:C PV->PV
 | [p]=>p
 |ps=>.tu ps
def Ziu:C Value->Value
 | [v]=>v
 |vs=>.tuple vs.toArray
theorem AP(hk:Ok w0 O E w m){t:C PV}{a:Act}(ht:ue w E t a.tmps):∀(rs:C ResultVar) (K:C PV->Prop),Vu P rs t m K->
 ∃ps vs,K ps/\(rs.mapM fun(r:ResultVar)=>(match r with
  |.tmp t=>pure (a.tmps.getD t Zj)
  |.cell b T=>do loadVar T (<-asAddr (a.tmps.getD b Zj)):Sem Value)).run P w=.ok vs w/\(Zm vs)=Zm ps/\(Zm ps)=Zm rs/\∀(j:Nat) (p:PV) (x:Value),ps[j]?=W p->vs[j]?=W x->eC w E p x
 | [],K,h=>⟨[],[],h,by simp,rfl,rfl,by simp⟩
 |.tmp i::rest,K,h=>by
  obtain⟨ps,vs,hK,kZ,hl,Qd,hr⟩:=AP hk ht rest _ h;refine⟨_,a.tmps.getD i Zj::vs,hK,?_,by grind,by grind,λj p x hp hx=>?_⟩
  ·simp_all
  ·cases j with
   |zero=>
    simp only[List.getElem?_cons_zero,V8]at hp hx
    subst hp hx;exact BC ht (.tmp i)
   |succ j=>grind
 |.cell i T::rest,K,h=>by
  simp only[Vu]at h
  cases hp:PG m (t.getD i .un)with
  |none=>unfold uw at h;grind
  |some cs=>
   rw[hp]at h
   obtain⟨b,off,hx,hb,hc⟩:=SQ hk (BC ht (.tmp i)) hp;obtain⟨p,v,hK,Zkr,wj⟩:=I9 h hb hc;obtain⟨ps,vs,hK,kZ,hl,Qd,hr⟩:=AP hk ht rest _ hK;simp only[Act.eval]at hx
   refine⟨_,v::vs,hK,?_,by grind,by grind,λj p x hp hx=>?_⟩
   ·have Zme:(asAddr (a.tmps.getD i Zj)).run P w=.ok ⟨b,off,Y⟩ w:=by rw[hx];rfl
    simp only[List.mapM_cons,Sem.run_bind,Zme,Result.andThen_ok,Zkr w (Up.rfl' w)]
    simp_all
   grind
def Fin(P:Program)(n0:Nat)(rs:Zo ResultVar)(r:PV)(m1:V)(t:C PV)(m:V):Prop:=Vu P rs.toList t m λps=>tN n0 [Zfq ps] m [r] m1
theorem TA{t:C PV}{a:Act}(hr:tP F t m a w)(h:Fin P F.n0 fn.results r m1 t m):
 ∃v E',(results fn a.tmps).run P w=.ok v w/\Ok F.w0 F.O E' w m1/\(∀b,F.S0 b->E'.S b)/\SBd F.S0 F.ω0 F.w0 F.O E'/\(∀l B,l<F.n0->E'.β l=W B->F.β0 l=W B)/\eC w E' r v:=by
 obtain⟨E,hk,C6,D8,Qa,hu0,hd,ht⟩:=hr;obtain⟨ps,vs,hcut,kZ,hl,Qd,hr⟩:=AP hk ht _ _ h;have Nh:(results fn a.tmps).run P w=.ok (Ziu vs) w:=by
  unfold results;rw[Array.mapM_eq_mapM_toList,Sem.run_bind,Sem.run_map];refine(congrArg (λr=>(Result.andThen r fun(a:C Value) w'=>Result.ok a.toArray w').andThen _) kZ).trans ?_
  match vs with
  | []=>rfl
  | [v]=>rfl
  |_::_::_=>rfl
 have hv0:eC w E (Zfq ps) (Ziu vs):=by
  match vs,ps,hl with
  | [v],[p],_=>exact hr 0 p v rfl rfl
  | [],[],_=>exact .tu _ _ YE YE
  |v::v'::vs,p::p'::ps,hl=>exact .tu _ _ YA λj q x hq hx=>hr j q x hq YD
 generalize Ziu vs=v0 at Nh hv0
 have h0:tP F [Zfq ps] m { tmps:=#[v0],defers:=[]} w:=by
  refine⟨E,hk,C6,D8,Qa,hu0,rfl,rfl,λi p hp=>?_⟩
  cases i with
  |zero=>
   simp_all
  |succ i=>grind
 obtain⟨E',k1,k2,k3,k4,_,_,k5⟩:=tP.Zeq hcut rfl h0;exact⟨_,E',Nh,k1,k2,k3,k4,k5.2 0 r rfl⟩
theorem je{f:FuncId}{c:Code}(hf:P.funcs[f]?=W fn)(hb:fn.body=W c)(hn:fn.ntmps=n){rs:Zo ResultVar}(hrs:fn.results=rs){args:C PV}{m0:V}
 (h:∀Q:Exit->C PV->V->Prop,(∀t m,Fin P (Zm m0) rs r m1 t m->Q .ret t m)->(∀t m,Fin P (Zm m0) rs r m1 t m->Q .normal t m)->s7 P (Zm m0) c Q (args++V9 (n-Zm args) .ud) m0):eh P f args m0 r m1:=by
 subst hn hrs;intro S β w vs ω hk hl hargs
 let F:Fr:=⟨w,oW β,β,Zm m0,S,ω⟩
 have hr0:tP F (args++V9 (fn.ntmps-Zm args) .ud) m0 { tmps:=vs++Xb (fn.ntmps-vs.size) Zj,defers:=[]} w:=by
  refine⟨E1 S β (Zm m0) ω,hk,λb hb=>hb,⟨λb hb=>.inl hb,λb q hb=>.inl hb⟩,λl B hl hB=>hB,λl hl=>hl,rfl,by grind,λi p hp=>?_⟩
  rcases Wu i (Zm args) with hi|hi
  ·rw[Wz hi]at hp
   obtain⟨x,hx,hr⟩:=hargs i p hp;have hiv:i<vs.size:=YA;have e:(vs++Xb (fn.ntmps-vs.size) Zj).getD i Zj=x:=by
    rw[WA,Array.getElem?_append_left hiv,hx];rfl
   grind
  ·rw[List.getElem?_append_right hi]at hp
   have bD:=(VT.1 hp).1;rw[List.length_replicate]at bD
   rw[List.getElem?_replicate,if_pos bD]at hp
   cases hp
   have e:(vs++Xb (fn.ntmps-vs.size) Zj).getD i Zj=Zj:=by
    rw[WA,Array.getElem?_append_right YA]
    grind
   rw[e];exact .c .ud
 refine calls_of_wp hf hb (Code.wp_mono ?_ (tB (F:=F) c (λe t m=>(e=.ret\/e=.normal)/\Fin P (Zm m0) fn.results r m1 t m) _ _ _ w (h _ (λt m h=>⟨.inl rfl,h⟩) (λt m h=>⟨.inr rfl,h⟩)) hr0))
 rintro e a w' ⟨t,m,⟨he,vH⟩,hr⟩;have hd:a.defers=[]:=by obtain⟨_,_,_,_,_,_,hd,_⟩:=hr;omega
 obtain⟨v,E',kZ,k1,k2,k3,k4,k5⟩:=TA hr vH;have key:bodyPost P fn (λe w'=>∃v E',e=.returned v/\Ok w (oW β) E' w' m1/\(∀b,S b->E'.S b)/\(∀b,E'.S b->S b\/w.heap.size<=b\/oW β b)/\((∀l B,l<Zm m0->E'.β l=W B->β l=W B)/\∀b q,E'.ω b q->ω b q\/w.heap.size<=b\/oW β b)/\eC w' E' r v) .ret a w':=
  ⟨hd,v,kZ,v,E',rfl,k1,k2,k3.1,⟨k4,k3.2⟩,k5⟩
 rcases he with rfl|rfl
 ·omega
 ·exact key
end
theorem fe{α:Sort _}{a b:α}(h:a=b):a=b:=h
abbrev vi(n:Int):PV:=.v (Z Zi n)
abbrev v8(n:Int):PV:=.v (.int .u8 n)
abbrev vb(b:Bool):PV:=.v (.bool b)
abbrev vs(s:ByteArray):PV:=.v (.string s)
abbrev aJ(n:Int):Int:=IntKind.i64.wrap n
/-! ### The other side: RL the code Zne,as_ a function;an answer is Zd where Go ZnQ panic. -/
def cf(b:Bool):L Unit:=cond b (W ()) Y
def az{α:Type}(xs:C α)(i:Int):L α:=if 0<=i then xs[i.toNat]? else Y
def xy(s:ByteArray)(i:Int):L Int:=if 0<=i/\i<s.size then W (CM s i.toNat)else Y
def bn(n bytes:Nat):Bool:=Zg (n<=1099511627776/\n*bytes<=140737488355328)
def iq(l h n:Int):Bool:=Zg (0<=l/\l<=h/\h<=n)
def da{α:Type}(xs:C α)(l h:Int):C α:=(xs.drop l.toNat).take (h.toNat-l.toNat)
def RG(s:ByteArray)(l h:Int):ByteArray:=s.extract l.toNat h.toNat
abbrev bj{σ ο δ:Type}(f:σ->δ)(g:ο->δ):σ⊕ο->δ
 |.inl a=>f a
 |.inr b=>g b
def aB{σ ο:Type}(body:σ->L (σ⊕ο)):Nat->σ->L ο
 |0,_=>Y
 |n+1,s=>(body s).bind (bj (aB body n) W)
def NN:Nat:=1152921504606846976
section
variable {α β γ δ σ ο:Type}
theorem H0{x:L α}{r:α}(h:x=W r):x.bind W=W r:=by simp_all
theorem Hc1{b:Bool}{A B:L α}{K:α->L β}{r:β}(h:(cond b A B).bind K=W r)(hb:b=Ze):A.bind K=W r:=by simp_all
theorem Hc2{b:Bool}{A B:L α}{K:α->L β}{r:β}(h:(cond b A B).bind K=W r)(hb:b=Zf):B.bind K=W r:=by simp_all
theorem Fj{x:L α}{F:α->L β}{K:β->L γ}{r:γ}(h:(x.bind F).bind K=W r):∃a,x=W a/\(F a).bind K=W r:=by
 cases x with
 |none=>cases h
 |some a=>simp_all
theorem ZdN{b:Bool}{F:Unit->L β}{K:β->L γ}{r:γ}(h:((cf b).bind F).bind K=W r):b=Ze/\(F ()).bind K=W r:=by
 cases b with
 |false=>cases h
 |true=>exact⟨rfl,h⟩
theorem Hlp{x:L ο}{G:ο->L β}{K:β->L γ}{r:γ}(h:(x.bind G).bind K=W r):x.bind (λo=>(G o).bind K)=W r:=by
 grind
theorem Hrd{body:σ->L (σ⊕ο)}{s:σ}{K:ο->L β}{r:β}(h:(aB body (n+1) s).bind K=W r):(body s).bind (bj (λs'=>(aB body n s').bind K) K)=W r:=by
 unfold aB at h
 grind
theorem Hno{body:σ->L (σ⊕ο)}{s:σ}{K:ο->L β}{r:β}(h:(aB body 0 s).bind K=W r):False:=by cases h
theorem ZlD{a r:α}(h:W a=W r):a=r:=VV h
end
class CT(P:Program){R:Type}(x:L R) where
 f:FuncId
 args:C PV
 m0:V
 res:R->PV
 mem:R->V
 ok:∀{r:R},x=W r->eh P f args m0 (res r) (mem r)
class bm{σ ο:Type}(body:σ->L (σ⊕ο)) where
 T:σ->C PV
 M:σ->V
class eE{α:Type}(f:α->C PV):Prop where
 h:∀x,∀q∈f x,uQ q=Ze
class s8{α:Type}(f:α->C PV):Prop where
 h:∀x,∀q∈f x,Nz q=Ze
/-! ### The Znl Vw. -/
def U:Nat->C PV->C PV
 |0,l=>l
 |n+1,l=>.un::U n l
theorem U_z(l:C PV):U 0 l=l:=fe rfl
theorem U_s(n:Nat)(l:C PV):U (n+1) l=.un::U n l:=fe rfl
theorem Zk3(a b:PV)(as_:C PV):(a::as_).set 0 b=b::as_:=fe rfl
theorem Zk2(a b:PV)(as_:C PV)(n:Nat):(a::as_).set (n+1) b=a::as_.set n b:=fe rfl
theorem Zbu(a d:PV)(as_:C PV):(a::as_).getD 0 d=a:=fe rfl
theorem Zbt(a d:PV)(as_:C PV)(n:Nat):(a::as_).getD (n+1) d=as_.getD n d:=fe rfl
theorem ZkS{α:Type}(a:α)(as_:C α):(a::as_)[0]?=W a:=fe rfl
theorem ZkR{α:Type}(a:α)(as_:C α)(n:Nat):(a::as_)[n+1]?=as_[n]?:=fe rfl
theorem ZkQ{α:Type}(as_:C α)(n:Nat):as_.toArray[n]?=as_[n]?:=fe YE
section
variable {P:Program} {ops:Zo Oper} {K:C PV->V->Prop} {KD:C LE->C PV->V->Prop} {rest:C Oper} {t:C PV} {m:V} {d:L Tmp} {o:Op} {ty:TypeId} {pos:String} {af:Zo Edge} {j:Nat} {b:Bool} {KA:PV->V->Prop} {KR:PV->Prop} {io:Bool} {wd ν base i:Nat} {g:C LE} {fl:C Nat}
def nxt(P:Program)(ops:Zo Oper)(K:C PV->V->Prop)(rest:C Oper)(t:C PV)(d:L Tmp)(p:PV)(m:V):Prop:=vK P ops K rest (ki t d p) m
def Mg(K:PV->V->Prop)(m:V)(p:PV):Prop:=K p m
def rgo(P:Program)(ops:Zo Oper)(K:C PV->V->Prop)(rest:C Oper)(d:L Tmp)(o:Op)(m:V)(t:C PV):Prop:=kb P Ze 16 (Zm m) o t m (nxt P ops K rest t d)
def pgo(P:Program)(ops:Zo Oper)(K:C PV->V->Prop)(rest:C Oper)(d:L Tmp)(m:V)(t:C PV):Prop:=vK P ops K rest (ki t d .ud) m
def wM(c:Bool)(y n:C PV->Prop)(t:C PV)(i:Nat):Prop:=gate c (y (t.set i (.v (.bool Ze)))) (n (t.set i (.v (.bool Zf))))
def gdV(p:PV)(i:Nat)(t:C PV)(b:Bool)(run pass:C PV->Prop):Prop:=
 match p,b with
 |.v (.bool c),Ze=>wM c run pass t i
 |.v (.bool c),Zf=>wM c pass run t i
 |.ud,_=>pass t
 |_,_=>False
def gd(d:L Tmp)(t:C PV)(b:Bool)(run pass:C PV->Prop):Prop:=
 match d with
 |none=>pass t
 |some d=>gdV (t.getD d .un) d t b run pass
theorem SF:nxt P ops K rest t d p m=vK P ops K rest (ki t d p) m:=fe rfl
theorem RY:Mg KA m p=KA p m:=fe rfl
theorem ZfW:rgo P ops K rest d o m t=kb P Ze 16 (Zm m) o t m (nxt P ops K rest t d):=fe rfl
theorem ZfI:pgo P ops K rest d m t=vK P ops K rest (ki t d .ud) m:=fe rfl
theorem Zbs{y n:C PV->Prop}{i:Nat}:wM Ze y n t i=y (t.set i (.v (.bool Ze))):=by simp[wM,gate]
theorem Zbr{y n:C PV->Prop}{i:Nat}:wM Zf y n t i=n (t.set i (.v (.bool Zf))):=by simp[wM,gate]
theorem MY{c:Bool}{y n:C PV->Prop}{i:Nat}(h1:c=Ze->y (t.set i (.v (.bool Ze))))(h2:c=Zf->n (t.set i (.v (.bool Zf)))):wM c y n t i:=⟨h1,h2⟩
theorem ZcM:vK P ops K [] t m=K t m:=fe rfl
theorem ZfK:vK P ops K (⟨d,o,ty,pos,af,Y⟩::rest) t m=kb P Ze 16 (Zm m) o t m (nxt P ops K rest t d):=fe rfl
theorem ZfJ:vK P ops K (⟨d,o,ty,pos,af,W (j,b)⟩::rest) t m=gd ((ops[j]?).bind (·.dst)) t b (rgo P ops K rest d o m) (pgo P ops K rest d m):=by
 rfl
/-! Znp the order is drawn. -/
def nxd(P:Program)(wd base:Nat)(fl:C Nat)(ops:Zo Oper)(K:C LE->C PV->V->Prop)(i:Nat)(rest:C Oper)(g:C LE)(t:C PV)(d:L Tmp)(p:PV)(m:V):Prop:=nP P wd base fl ops K i rest g (ki t d p) m
def rgd(P:Program)(wd base:Nat)(fl:C Nat)(ops:Zo Oper)(K:C LE->C PV->V->Prop)(i:Nat)(rest:C Oper)(g:C LE)(oo:Oper)(m:V)(t:C PV):Prop:=
 kb P Zf wd (base+wd*i) oo.op t m (nxd P wd base fl ops K (i+1) rest (g++[Qz ops oo t wd (base+wd*i)]) t oo.dst)
def pgd(P:Program)(wd base:Nat)(fl:C Nat)(ops:Zo Oper)(K:C LE->C PV->V->Prop)(i:Nat)(rest:C Oper)(g:C LE)(oo:Oper)(m:V)(t:C PV):Prop:=nP P wd base fl ops K (i+1) rest (g++[le0 ops oo]) (ki t oo.dst .ud) m
def nxe(P:Program)(wd base:Nat)(fl:C Nat)(ops:Zo Oper)(K:C LE->C PV->V->Prop)(i:Nat)(rest:C Oper)(g:C LE)(oo:Oper)(ν:Nat)(t:C PV)(ρ:C Nat)(p:PV)(m:V):Prop:=nP P wd base fl ops K i rest (g++[Ze8 ops oo ρ wd ν]) (ki t oo.dst p) m
def rge(P:Program)(wd base:Nat)(fl:C Nat)(ops:Zo Oper)(K:C LE->C PV->V->Prop)(i:Nat)(rest:C Oper)(g:C LE)(oo:Oper)(m:V)(t:C PV):Prop:=
 if Qu fl i=Ze then Ra P wd (base+wd*i) oo.op t m (nxe P wd base fl ops K (i+1) rest g oo (base+wd*i) t)else rgd P wd base fl ops K i rest g oo m t
theorem SE{ν:Nat}{ρ:C Nat}:nxe P wd base fl ops KD i rest g oo ν t ρ p m=nP P wd base fl ops KD i rest (g++[Ze8 ops oo ρ wd ν]) (ki t oo.dst p) m:=fe rfl
theorem ZfV:rge P wd base fl ops KD i rest g oo m t=if Qu fl i=Ze then Ra P wd (base+wd*i) oo.op t m (nxe P wd base fl ops KD (i+1) rest g oo (base+wd*i) t)else rgd P wd base fl ops KD i rest g oo m t:=fe rfl
theorem ZbZ{i:Nat}:Qu [] i=false:=fe rfl
theorem Ux{a i:Nat}{l:C Nat}:Qu (a::l) i=if a=i then Ze else Qu l i:=fe rfl
theorem Vd{wd ν:Nat}{f:FuncId}{xs:C Operand}{K:C Nat->PV->V->Prop}:Ra P wd ν (.call ⟨.value (.func f),xs.toArray,Ts⟩) t m K=(wk P f/\pIO P wd ν f (xs.map (iy t)) m K):=fe rfl
theorem SD:nxd P wd base fl ops KD i rest g t d p m=nP P wd base fl ops KD i rest g (ki t d p) m:=fe rfl
theorem Ve:nP P wd base fl ops KD i [] g t m=KD g t m:=by rfl
theorem ZcL:nP P wd base fl ops KD i (⟨d,o,ty,pos,af,Y⟩::rest) g t m=rge P wd base fl ops KD i rest g ⟨d,o,ty,pos,af,Y⟩ m t:=by rfl
theorem ZcK:nP P wd base fl ops KD i (⟨d,o,ty,pos,af,W (j,b)⟩::rest) g t m=gd ((ops[j]?).bind (·.dst)) t b (rgd P wd base fl ops KD i rest g ⟨d,o,ty,pos,af,W (j,b)⟩ m) (pgd P wd base fl ops KD i rest g ⟨d,o,ty,pos,af,W (j,b)⟩ m):=by
 rfl
theorem ZfU:rgd P wd base fl ops KD i rest g oo m t=kb P Zf wd (base+wd*i) oo.op t m (nxd P wd base fl ops KD (i+1) rest (g++[Qz ops oo t wd (base+wd*i)]) t oo.dst):=fe rfl
theorem ZfH:pgd P wd base fl ops KD i rest g oo m t=nP P wd base fl ops KD (i+1) rest (g++[le0 ops oo]) (ki t oo.dst .ud) m:=fe rfl
theorem ZeB{i:Nat}{run pass:C PV->Prop}:gd (W i) t b run pass=gdV (t.getD i .un) i t b run pass:=fe rfl
theorem ZeA{run pass:C PV->Prop}:gd Y t b run pass=pass t:=fe rfl
theorem ZhP{i:Nat}{c:Bool}{run pass:C PV->Prop}:gdV (.v (.bool c)) i t Ze run pass=wM c run pass t i:=fe rfl
theorem ZhO{i:Nat}{c:Bool}{run pass:C PV->Prop}:gdV (.v (.bool c)) i t Zf run pass=wM c pass run t i:=fe rfl
theorem ZhQ{i:Nat}{run pass:C PV->Prop}:gdV .ud i t b run pass=pass t:=by rfl
theorem Vj{i:Nat}:ki t (W i) p=t.set i p:=fe rfl
theorem Vi:ki t Y p=t:=fe rfl
theorem Se{i:Nat}:iy t (.tmp i)=t.getD i .un:=fe rfl
theorem Zeu{k:IntKind}{n:Int}:iy t (.const (.int k n))=.v (.int k n):=fe rfl
theorem MU{c:Bool}:iy t (.const (.bool c))=.v (.bool c):=fe rfl
theorem Zew{c:ByteArray}:iy t (.const (.string c))=.v (.string c):=fe rfl
theorem ZhF{n c:Nat}:iy t (.const (.slice a n c))=.v (.slice a n c):=fe rfl
theorem Zev:iy t (.const (.pointer a))=.v (.pointer a):=fe rfl
theorem Zbl{f:FuncId}:iy t (.func f)=.v (.func (.func f) #[] #[]):=fe rfl
theorem Va:kb P io wd ν (.move x) t m KA=KA (iy t x) m:=fe rfl
theorem Ow:kb P io wd ν (.assign x) t m KA=KA (iy t x) m:=fe rfl
def Ja(c x y:PV)(K:PV->Prop):Prop:=match c with
 |.v (.bool b)=>K (if b then x else y)
 |_=>False
theorem Zfx{x y:PV}:Ja (.v (.bool Ze)) x y KR=KR x:=fe rfl
theorem Zfw{x y:PV}:Ja (.v (.bool Zf)) x y KR=KR y:=fe rfl
theorem Vb{c x y:Operand}:kb P io wd ν (.pick c x y) t m KA=Ja (iy t c) (iy t x) (iy t y) (Mg KA m):=fe rfl
theorem U9:kb P io wd ν (.load T x) t m KA=uw P T (PG m (iy t x)) (Mg KA m):=fe rfl
theorem Il:kb P io wd ν (.nilCheck x) t m KA=Ii m (iy t x) (Mg KA m):=fe rfl
theorem Q3{op:BinOp}:kb P io wd ν (.binOp op T x y T') t m KA=Oa P op T (iy t x) (iy t y) (Mg KA m):=fe rfl
theorem Vc{op:UnOp}:kb P io wd ν (.unOp op T x) t m KA=pUn op (iy t x) (Mg KA m):=fe rfl
theorem K5:kb P io wd ν (.convert T T' x) t m KA=uh P m T T' (iy t x) (Mg KA m):=fe rfl
theorem Q8{lo hi:L Operand}:kb P io wd ν (.slice T x lo hi Y) t m KA=mw P m T (iy t x) (lo.map (iy t)) (hi.map (iy t)) (Mg KA m):=fe rfl
theorem GS{f:Nat}:kb P io wd ν (.fieldAddr T x f) t m KA=mv P m T (iy t x) f (Mg KA m):=fe rfl
theorem Q5{f:Nat}:kb P io wd ν (.field T x f) t m KA=yN P T (iy t x) f (Mg KA m):=fe rfl
theorem GU:kb P io wd ν (.indexAddr T x y) t m KA=dh P m T (iy t x) (iy t y) (Mg KA m):=fe rfl
theorem Q6:kb P io wd ν (.index T x y) t m KA=vv P T (iy t x) (iy t y) (Mg KA m):=fe rfl
theorem K6{i:Nat}:kb P io wd ν (.extract x i) t m KA=Od i (iy t x) (Mg KA m):=fe rfl
theorem Q4{ps:C (Nat×Operand)}:kb P io wd ν (.build T ps.toArray) t m KA=yM P T (ps.map λq=>(q.1,iy t q.2)) (Mg KA m):=fe rfl
theorem Ik{f:FuncId}{cs:C Operand}:kb P io wd ν (.makeFunc (.func f) #[] cs.toArray) t m KA=KA (.fn f (cs.map (iy t))) m:=fe rfl
theorem ZcG:kb P io wd ν (.call ⟨.builtin .len,#[x],#[T]⟩) t m KA=zR P m T (iy t x) (Mg KA m):=fe rfl
theorem ZcI:kb P io wd ν (.call ⟨.builtin .min,#[x,y],#[T,T']⟩) t m KA=sU Zf [iy t x,iy t y] (Mg KA m):=fe rfl
theorem ZcH:kb P io wd ν (.call ⟨.builtin .max,#[x,y],#[T,T']⟩) t m KA=sU Ze [iy t x,iy t y] (Mg KA m):=fe rfl
theorem Q2:kb P io wd ν (.alloc T) t m KA=Ds ν m T (pz P T) KA:=fe rfl
theorem ZcE:kb P io wd ν (.box T x) t m KA=Ds ν m T (pc (iy t x)) KA:=fe rfl
theorem EF{ps:C (Nat×Operand)}:kb P io wd ν (.buildSlice T n ps.toArray) t m KA=o4 P ν m T n (ps.map λq=>(q.1,iy t q.2)) KA:=fe rfl
theorem GV:kb P io wd ν (.makeSlice T x y) t m KA=yO P ν m T (iy t x) (iy t y) KA:=fe rfl
theorem Q9:kb P io wd ν (.store T x y) t m KA=yP P m T (iy t x) (iy t y) KA:=fe rfl
theorem Ov:kb P io wd ν (.call ⟨.builtin .append,#[x,y],#[T,T]⟩) t m KA=ix P ν m T (iy t x) (iy t y) KA:=by
 have:kb P io wd ν (.call ⟨.builtin .append,#[x,y],#[T,T]⟩) t m KA=(T=T/\ix P ν m T (iy t x) (iy t y) KA):=rfl
 simp_all
theorem U8{f:FuncId}{xs:C Operand}:kb P io wd ν (.call ⟨.value (.func f),xs.toArray,Ts⟩) t m KA=(wk P f/\rN P io wd ν f (xs.map (iy t)) m KA):=fe rfl
def Zfu(P:Program)(io:Bool)(wd ν:Nat)(p:PV)(ps:C PV)(m:V)(K:PV->V->Prop):Prop:=match p with
 |.fn f cs=>(∀c∈cs,Gq c=Ze)/\wk P f/\rN P io wd ν f (ps++cs) m K
 |_=>False
theorem ZcF{i:Nat}{xs:C Operand}:kb P io wd ν (.call ⟨.value (.tmp i),xs.toArray,Ts⟩) t m KA=Zfu P io wd ν (t.getD i .un) (xs.map (iy t)) m KA:=fe rfl
theorem UZ:KH (W v) KR=KR (.v v):=fe rfl
theorem ZiD{l i o:Nat}:PG m (.be l i o)=((Zp m l).bind λmb=>(mb.es[i]?).map (·.drop o)):=by
 unfold Zp PG
 cases h:m[l]? with
 |none=>grind
 |some x=>cases x<;>simp[h]
theorem Zcg{x:L MB}{m:V}:Zp (x::m) 0=x:=by rfl
theorem Zcf{x:L MB}{m:V}:Zp (x::m) (n+1)=Zp m n:=fe rfl
theorem Ziq{x:L MB}{m:V}:qN (x::m) 0 mb=W mb::m:=by simp[qN]
theorem Zio{x:L MB}{m:V}:qN (x::m) (n+1) mb=x::qN m n mb:=by
 unfold qN;simp
theorem Zfd:qN [] 0 mb=[W mb]:=fe rfl
theorem Zfe:qN [] (n+1) mb=Y::qN [] n mb:=by
 rfl
theorem Zis{α:Type}(a b:α)(as_:C α):(a::as_).set 0 b=b::as_:=fe rfl
theorem Zir{α:Type}(a b:α)(as_:C α)(n:Nat):(a::as_).set (n+1) b=a::as_.set n b:=fe rfl
theorem ZiN(c q:PV)(cs qs:C PV):zV (c::cs) 0 (q::qs)=q::zV cs 0 qs:=by rfl
theorem ZiL(cs:C PV):zV cs 0 []=cs:=by simp[zV]
theorem ZiM(c:PV)(cs qs:C PV)(n:Nat):zV (c::cs) (n+1) qs=c::zV cs n qs:=by
 simp only[zV,Xt,Xa]
 grind
theorem ZiC{α:Type}(bs:C α):List.append [] bs=bs:=fe rfl
theorem ZiB{α:Type}(a:α)(as_ bs:C α):List.append (a::as_) bs=a::List.append as_ bs:=fe rfl
theorem Zg7{ν i:Nat}:sig [] ν i=ν+i:=by simp[sig]
theorem Zg9{a ν:Nat}{ρ:C Nat}:sig (a::ρ) ν 0=a:=fe rfl
theorem Zg8{a ν i:Nat}{ρ:C Nat}:sig (a::ρ) ν (i+1)=sig ρ ν i:=by
 unfold sig;simp
theorem Jk{α:Type}{f:α->C PV}[hf:eE f]{σ:Nat->Nat}{xs:C α}:ux σ (xs.map f)=xs.map f:=by
 unfold ux;rw[List.map_map];apply WG;intro x _;have h1:=hf.h x;show(f x).map (uH σ)=f x;generalize f x=cs at h1
 induction cs with
 |nil=>rfl
 |cons c cs ih=>
  rw[WM,ih λq hq=>h1 q (Wl _ hq)]
  congr 1
  have hc:=h1 c Wo;have k1:∀{d:PV},wP d=Ze->x9 σ d=d:=λ{d} hd=>by cases d<;>simp_all[wP,x9]
  cases c with
  |fn g ds=>
   simp only[uQ,VZ]at hc
   simp only[uH]
   congr 1
   have e:ds.map (x9 σ)=ds.map id:=WG λd hd=>k1 (hc d hd)
   simp_all
  |_=>simp_all[uQ,wP,uH,x9]
theorem Vs{σ:Nat->Nat}:ux σ []=[]:=fe rfl
theorem Rh{σ:Nat->Nat}{c:C PV}{cs:C (C PV)}:ux σ (c::cs)=c.map (uH σ)::ux σ cs:=fe rfl
theorem Ci{α:Type}{f:α->C PV}[hf:eE f]{xs:C α}:Zf1 (xs.map f):=by
 intro cs tv q hq;obtain⟨x,_,rfl⟩:=WH.1 tv;exact hf.h x q hq
theorem OM{α:Type}{f:α->C PV}[hf:eE f]{xs:C α}:(∀cs∈xs.map f,∀q∈cs,uQ q=Ze)=True:=by
 simp only[eq_iff_iff,iff_true];exact Ci
theorem wN{c:PV}(h:uQ c=Ze):fC Zf c:=by
 cases c with
 |fn f cs=>
  simp only[uQ,VZ]at h
  exact⟨rfl,λd hd=>by have:=h d hd;cases d<;>simp_all[wP,Gq]⟩
 |_=>intro h;cases h
theorem Gb{c:PV}(h:Nz c=Ze):fC Ze c:=by
 cases c<;>first|exact λ_=>h|simp[Nz]at h
theorem Uk{α:Type}{f:α->C PV}[hf:eE f]{xs:C α}:(∀cs∈xs.map f,∀p∈cs,fC Zf p)=True:=by
 simp only[eq_iff_iff,iff_true];intro cs tv q hq;obtain⟨x,_,rfl⟩:=WH.1 tv;exact wN (hf.h x q hq)
theorem Ul{α:Type}{f:α->C PV}[hf:s8 f]{xs:C α}:(∀cs∈xs.map f,∀p∈cs,fC Ze p)=True:=by
 simp only[eq_iff_iff,iff_true];intro cs tv q hq;obtain⟨x,_,rfl⟩:=WH.1 tv;exact Gb (hf.h x q hq)
theorem IZ{A:MB->Prop}:live m l A=(match Zp m l with
 |some mb=>A mb
 |none=>False):=oC A
theorem BA{α β:Type}(f:α->β)(xs:C α)(n:Nat):(xs.map f).drop n=(xs.drop n).map f:=List.map_drop.symm
theorem Cu{α β:Type}(f:α->β)(xs:C α)(n:Nat):(xs.map f).take n=(xs.take n).map f:=List.map_take.symm
end
section
variable {P:Program} {n0:Nat} {Q:Exit->C PV->V->Prop} {t t':C PV} {m m':V} {K:C PV->V->Prop} {KR:PV->Prop} {KA:PV->V->Prop}
theorem uK:ub K Q .normal t m=K t m:=rfl
theorem Hz{i:Nat}:ub K Q (.exit i) t m=Q (.exit i) t m:=rfl
theorem JE:ub K Q .ret t m=Q .ret t m:=rfl
theorem tF:ym id Q .normal t m=Q .normal t m:=rfl
theorem DR{id i:Nat}:ym id Q (.exit i) t m=if i=id then Q .normal t m else Q (.exit i) t m:=rfl
theorem FG:ym id Q .ret t m=Q .ret t m:=rfl
theorem ZfO{x y:Code}(h:∀K:C PV->V->Prop,(∀t m,s7 P n0 y Q t m->K t m)->s7 P n0 x (ub K Q) t m):s7 P n0 (.seq x y) Q t m:=
 h (λt m=>s7 P n0 y Q t m) (λ_ _ h=>h)
theorem Vl{c:Code}(h:s7 P n0 c (ym id Q) t m):s7 P n0 (.block id c) Q t m:=h
def Mx(p:PV)(A B:Prop):Prop:=match p with
 |.v (.bool b)=>(b=Ze->A)/\(b=Zf->B)
 |_=>False
theorem Vm{c:Operand}{x y:Code}(h:Mx (iy t c) (s7 P n0 x Q t m) (s7 P n0 y Q t m)):s7 P n0 (.cond c x y) Q t m:=by
 unfold Mx at h
 split at h
 ·rename_i b hb
  simp only[s7,hb]
  grind
 grind
theorem ZaX{A B:Prop}(h:A):Mx (.v (.bool Ze)) A B:=⟨λ_=>h,λh=>by cases h⟩
theorem ZaW{A B:Prop}(h:B):Mx (.v (.bool Zf)) A B:=⟨λh=>YM,λ_=>h⟩
theorem My{b:Bool}{A B:Prop}(h1:b=Ze->A)(h2:b=Zf->B):Mx (.v (.bool b)) A B:=⟨h1,h2⟩
theorem ZcT(h:Q .normal t m):s7 P n0 .skip Q t m:=h
theorem ZcQ{i:Nat}(h:Q (.exit i) t m):s7 P n0 (.exit i) Q t m:=h
theorem ZfN(h:Q .ret t m):s7 P n0 .ret Q t m:=h
theorem Rg{ops:C Oper}(h:vK P ops.toArray (Q .normal) ops t m):s7 P n0 (.region id ops.toArray Zf) Q t m:=.inl h
def Ue(ops:C Oper)(K:C PV->V->Prop)(g:C LE)(t:C PV)(m:V):Prop:=PX ops g=Ze/\K t m
theorem ZcO{ops:C Oper}(h1:P.follows .mixedOrders=Ze)(h:nP P 4 (Zm m) [] ops.toArray (Ue ops (Q .normal)) 0 ops [] t m):s7 P n0 (.region id ops.toArray Ze) Q t m:=.inl ⟨h1,4,[],by decide,h⟩
theorem Vn{id wd:Nat}{fl:C Nat}{ops:C Oper}(C9:Zg (0<wd)=Ze)(h1:P.follows .mixedOrders=Ze)(h:nP P wd (Zm m) fl ops.toArray (Ue ops (Q .normal)) 0 ops [] t m):s7 P n0 (.region id ops.toArray Ze) Q t m:=.inl ⟨h1,wd,fl,Yu C9,h⟩
theorem P6{ops:C Oper}{g:C LE}(h1:PX ops g=Ze)(h2:K t m):Ue ops K g t m:=⟨h1,h2⟩
theorem Vo{c:Code}{σ ο R:Type}{body:σ->L (σ⊕ο)}[E:bm body]{N:Nat}{s0:σ}{ZeZ:ο->L R}{r:R}(H:(aB body N s0).bind ZeZ=W r)(hcut:tN n0 t m (E.T s0) (E.M s0))
 (ZbQ:∀n s,(aB body (n+1) s).bind ZeZ=W r->∀K:C PV->V->Prop,(∀s' t m,(aB body n s').bind ZeZ=W r->tN n0 t m (E.T s') (E.M s')->K t m)->s7 P n0 c (ub K Q) (E.T s) (E.M s)):s7 P n0 (.loop c) Q t m:=by
 refine⟨λn t m=>∃s,(aB body n s).bind ZeZ=W r/\t=E.T s/\m=E.M s,N,E.T s0,E.M s0,hcut,⟨s0,H,rfl,rfl⟩,?_⟩
 rintro n t m ⟨s,hI,rfl,rfl⟩
 cases n with
 |zero=>exact(Hno hI).elim
 |succ n=>grind
/-! Zja. -/
def lK(P:Program)(T:TypeId):Nat:=match P.underlying T with
 |some (.slice e)=>P.cellsOf e
 |_=>0
theorem wJ(h:0<lK P T):∃e,P.underlying T=W (.slice e)/\lK P T=P.cellsOf e:=by
 unfold lK at *
 grind
theorem ky{α:Type}{xs:C α}{i:Int}{x:α}(h:az xs i=W x):0<=i/\xs[i.toNat]?=W x:=by
 unfold az at h
 grind
theorem Ke{α:Type}{xs:C α}{i:Int}{x:α}(h:az xs i=W x):0<=i/\i<Zm xs/\xs[i.toNat]?=W x:=by
 obtain⟨h1,h2⟩:=ky h
 grind
theorem Zid{α:Type}{f:α->C PV}{xs:C α}{x:α}{i:Int}{k:IntKind}(h:az xs i=W x)(hp:0<lK P T)(hc:Zm (f x)=lK P T)(hK:KR (.rp (f x))):dh P m T (.sl (xs.map f)) (.v (.int k i)) KR:=by
 obtain⟨h1,h2,h3⟩:=Ke h;obtain⟨e,hu,he⟩:=wJ hp;rw[he]at hp hc
 have hd:(xs.map f).getD i.toNat []=f x:=by grind
 simp only[dh,hu,Wi]
 grind
theorem Zic{α:Type}{f:α->C PV}{xs:C α}{x:α}{T':TK}{i:Int}{k:IntKind}(h:az xs i=W x)(hm:Zp m l=W ⟨T',k',xs.map f⟩)(hp:0<lK P T)(hk:k'=lK P T)(hK:KR (.be l i.toNat 0)):dh P m T (.ms l) (.v (.int k i)) KR:=by
 obtain⟨h1,h2,h3⟩:=Ke h;obtain⟨e,hu,he⟩:=wJ hp;rw[he]at hk
 simp only[dh,hu,oC,hm,Wi]
 grind
theorem ZeQ{i c:Int}{k:IntKind}(h:xy s i=W c)(hu:P.underlying T=W .string)(hK:KR (.v (.int .u8 c))):vv P T (.v (.string s)) (.v (.int k i)) KR:=by
 unfold xy at h
 split at h
 ·rename_i hi
  cases h
  simp only[vv,hu]
  grind
 grind
theorem KI{c:Prop}[Decidable c](hc:c)(h:KR (.v v)):KH (if c then W v else Y) KR:=by rw[if_pos hc];exact h
theorem Zds{α:Type}{f:α->C PV}{xs:C α}{l h:Int}(hok:iq l h (Zm xs)=Ze)(hlo:KN lo 0=W l)(hhi:KN hi (Zm xs)=W h)(hp:0<lK P T)(hf:∀x,Zm (f x)=lK P T)(hK:KR (.sl ((da xs l h).map f))):mw P m T (.sl (xs.map f)) lo hi KR:=by
 obtain⟨e,hu,he⟩:=wJ hp;rw[he]at hp hf
 have wO:=Yu hok;simp only[mw,hu,Wi,hlo,hhi];refine⟨wO.1,wO.2.1,wO.2.2,hp,λcs tv=>?_,?_⟩
 ·grind
 ·rw[BA,Cu];exact hK
theorem VM{l h:Int}(hok:iq l h s.size=Ze)(hlo:KN lo 0=W l)(hhi:KN hi s.size=W h)(hu:P.underlying T=W .string)(hK:KR (.v (.string (RG s l h)))):mw P m T (.v (.string s)) lo hi KR:=by
 have wO:=Yu hok;simp only[mw,hu,hlo,hhi];exact⟨wO.1,wO.2.1,wO.2.2,hK⟩
/-! Calls. -/
theorem TT{f:FuncId}{io:Bool}{wd ν:Nat}(hs:Cl m ps (λqs=>eh P f qs [] r m1))(hw:Zm m1<=wd)(hm:∀mb,W mb∈m1->∀cs∈mb.es,∀p∈cs,fC Ze p)(hg:s9 Ze r)(hK:KA (Ch (sig [] ν) r) (kN (sig [] ν) ν m1 m)):rN P io wd ν f ps m KA:=
 .inl ⟨r,m1,hs,hw,λmb h cs hc p hp=>.inl (hm mb h cs hc p hp),hg,hK⟩
theorem iJ(h:uQ p=Ze):fC Zf p/\AD 0 p=true:=by
 refine⟨wN h,?_⟩
 cases p with
 |fn f cs=>
  simp only[uQ,VZ]at h
  simp only[AD,VZ];intro c hc;have:=h c hc
  cases c<;>simp_all[wP,EA]
 |_=>simp_all[uQ,wP,AD,EA]
theorem tI{σ:Nat->Nat}(h:uQ p=Ze):uH σ p=p:=by
 have k1:∀{d:PV},wP d=Ze->x9 σ d=d:=λ{d} hd=>by cases d<;>simp_all[wP,x9]
 cases p with
 |fn g ds=>
  simp only[uQ,VZ]at h
  simp only[uH]
  congr 1
  have e:ds.map (x9 σ)=ds.map id:=WG λd hd=>k1 (h d hd)
  simp_all
 |_=>simp_all[uQ,wP,uH,x9]
theorem BO{σ:Nat->Nat}(h:Uy p=Ze):Cg σ p=p/\vP Zf p/\Kx 0 p=true:=by
 cases p with
 |ag cs=>
  simp only[Uy,VZ]at h
  refine⟨?_,λc hc=>(iJ (h c hc)).1,?_⟩
  ·simp only[Cg]
   have e:cs.map (uH σ)=cs.map id:=WG λd hd=>tI (h d hd)
   simp_all
  ·simp only[Kx,VZ];exact λc hc=>(iJ (h c hc)).2
 |tu vs=>simp[Uy]at h
 |v x=>
  have h':uQ (.v x)=true:=h;exact⟨tI (σ:=σ) h',(iJ h').1,(iJ h').2⟩
 |ud=>
  have h':uQ (.ud)=true:=h;exact⟨tI (σ:=σ) h',(iJ h').1,(iJ h').2⟩
 |un=>
  have h':uQ (.un)=true:=h;exact⟨tI (σ:=σ) h',(iJ h').1,(iJ h').2⟩
 |sl es=>
  have h':uQ (.sl es)=true:=h;exact⟨tI (σ:=σ) h',(iJ h').1,(iJ h').2⟩
 |rp cs=>
  have h':uQ (.rp cs)=true:=h;exact⟨tI (σ:=σ) h',(iJ h').1,(iJ h').2⟩
 |ms l=>
  have h':uQ (.ms l)=true:=h;exact⟨tI (σ:=σ) h',(iJ h').1,(iJ h').2⟩
 |ss l a b=>
  have h':uQ (.ss l a b)=true:=h;exact⟨tI (σ:=σ) h',(iJ h').1,(iJ h').2⟩
 |be l i o=>
  have h':uQ (.be l i o)=true:=h;exact⟨tI (σ:=σ) h',(iJ h').1,(iJ h').2⟩
 |fn f cs=>
  have h':uQ (.fn f cs)=true:=h;exact⟨tI (σ:=σ) h',(iJ h').1,(iJ h').2⟩
theorem TS{f:FuncId}{io:Bool}{wd ν:Nat}(hs:eh P f ps [] r m1)(hp:∀p∈ps,Uy p=Ze)(hw:Zm m1<=wd)(hm:∀mb,W mb∈m1->∀cs∈mb.es,∀p∈cs,fC Zf p)(hg:s9 Zf r)(hK:KA (Ch (sig [] ν) r) (kN (sig [] ν) ν m1 m)):rN P io wd ν f ps m KA:=by
 refine .inr ⟨[],[],ps,r,m1,.inr rfl,hs,Ws _,YA,?_,λq hq=>⟨(BO (σ:=id) (hp q hq)).2.1,(BO (σ:=id) (hp q hq)).2.2⟩,List.nodup_nil,trivial,hm,hg,by simpa[qO]using hK⟩
 have:ps.map (Cg (sig [] ν))=ps.map id:=WG λp h=>(BO (hp p h)).1
 simp_all
/-! Zlg. -/
theorem Zhl{α:Type}{f:α->C PV}{xs ys:C α}{ν l e k:Nat}{x:PV}(hok:bn (Zm xs+Zm ys) (P.bytesOf e)=Ze)(hu:P.underlying T=W (.slice e))(hz:pz P e=W zc)(Ay:rR m x=W (ys.map f))(hl:Zp m l=W ⟨e,k,xs.map f⟩)
 (CD:Zm zc=P.cellsOf e) (hp:0<P.cellsOf e) (hf:∀x,Zm (f x)=P.cellsOf e) (hk:k=P.cellsOf e) (hK:KA (.ms ν) (qN (m.set l Y) ν ⟨e,k,(xs++ys).map f⟩)):ix P ν m T (.ms l) x KA:=by
 subst hk;have wO:=Yu hok;simp only[ix,hu,hz,Ay,oC,hl,Wi]
 simp_all
theorem Zhm{α:Type}{f:α->C PV}{ys:C α}{ν e:Nat}{x:PV}(hok:bn (Zm ys) (P.bytesOf e)=Ze)(hu:P.underlying T=W (.slice e))(hz:pz P e=W zc)(Ay:rR m x=W (ys.map f))
 (CD:Zm zc=P.cellsOf e) (hp:0<P.cellsOf e) (hf:∀x,Zm (f x)=P.cellsOf e) (hK:KA (.ms ν) (qN m ν ⟨e,P.cellsOf e,ys.map f⟩)):ix P ν m T (.v (.slice Y 0 0)) x KA:=by
 have wO:=Yu hok;simp only[ix,hu,hz,Ay,Wi]
 grind
/-! tN. -/
theorem Za7{ρ:Nat->L Nat}:HZ ρ m m' [] []:=trivial
theorem Zel{ρ:Nat->L Nat}{ps rs:C PV}(h:HZ ρ m m' ps rs):HZ ρ m m' (p::ps) (.un::rs):=⟨.a (.c (.un p)),h⟩
theorem ZhA{ρ:Nat->L Nat}{ps rs:C PV}(hc:HU ρ m m' p r)(h:HZ ρ m m' ps rs):HZ ρ m m' (p::ps) (r::rs):=⟨hc,h⟩
theorem Za8{ρ:Nat->L Nat}(h:uQ p=Ze):HU ρ m m' p p:=.a (.c (.c p h))
theorem ZhB{ρ:Nat->L Nat}(h:qQ ρ m m' p r):HU ρ m m' p r:=.a (.c h)
theorem Zem{ρ:Nat->L Nat}(h:tQ ρ m m' cs ds):HU ρ m m' (.ag cs) (.ag ds):=.a (.ag cs ds h)
theorem Zeg{ρ:Nat->L Nat}(h:tQ ρ m m' cs ds):JR ρ m m' (.ag cs) (.ag ds):=.ag cs ds h
theorem Zhu{ρ:Nat->L Nat}(h:qQ ρ m m' p r):JR ρ m m' p r:=.c h
theorem Zen{ρ:Nat->L Nat}(h:FX ρ m m' cs ds):HU ρ m m' (.tu cs) (.tu ds):=.tu cs ds h
theorem T3{ρ:Nat->L Nat}:FX ρ m m' [] []:=trivial
theorem Zeh{ρ:Nat->L Nat}{ps rs:C PV}(hc:JR ρ m m' p r)(h:FX ρ m m' ps rs):FX ρ m m' (p::ps) (r::rs):=⟨hc,h⟩
theorem Za6{ρ:Nat->L Nat}:tQ ρ m m' [] []:=trivial
theorem Zhz{ρ:Nat->L Nat}{ps rs:C PV}(hc:qQ ρ m m' p r)(h:tQ ρ m m' ps rs):tQ ρ m m' (p::ps) (r::rs):=⟨hc,h⟩
def gC(rs:C (L Nat))(l:Nat):L Nat:=(rs[l]?).join
theorem Zc6{x:L Nat}:gC (x::rs) 0=x:=by rfl
theorem OL{x:L Nat}:gC (x::rs) (l+1)=gC rs l:=rfl
theorem Zek(h:gC rs l=W k)(hl:Zg (l<Zm m')=Ze):qQ (gC rs) m m' (.ms k) (.ms l):=.ms l k h (Yu hl)
theorem Zej{l k i o:Nat}(h:gC rs l=W k)(hl:Zg (l<Zm m')=Ze):qQ (gC rs) m m' (.be k i o) (.be l i o):=.be l k i o h (Yu hl)
theorem P2(h:gC rs l=Y)(hl:Zg (l<Zm m')=Ze):qQ (gC rs) m m' (.v (.slice Y 0 0)) (.ms l):=.Zg3 l h (Yu hl)
theorem P3{α:Type}{f:α->C PV}{ρ:Nat->L Nat}{c:Nat}:qQ ρ m m' (.v (.slice Y 0 c)) (.sl (([]:C α).map f)):=.SB c
def ZkT(rs:C (L Nat))(k:Nat):Bool:=rs.all λx=>match x with
 |some j=>!decide (j=k)
 |none=>Ze
theorem F1(h:ZkT rs k=Ze):dropped (gC rs) m' k:=by
 intro l _ he;unfold gC at he
 cases hl:rs[l]? with
 |none=>grind
 |some x=>
  rw[hl]at he
  have he':x=W k:=he;subst he';have:=VZ.1 h _ (VU hl)
  grind
theorem MC{α:Type}{f:α->C PV}[eE f]{xs:C α}{T:TK}(hm:Zp m k=W ⟨T,k',xs.map f⟩)(hd:dropped (gC rs) m' k):qQ (gC rs) m m' (.ms k) (.sl (xs.map f)):=.fms k ⟨T,k',xs.map f⟩ (kj.1 hm) Ci hd
theorem Za2{T:TK}(hm:Zp m k=W ⟨T,k',[cs]⟩)(hc:cs.all uQ=Ze)(hd:dropped (gC rs) m' k):qQ (gC rs) m m' (.be k 0 0) (.rp cs):=by
 have:=qQ.fbe (ρ:=gC rs) (m:=m) (m':=m') k 0 0 ⟨T,k',[cs]⟩ cs (kj.1 hm) rfl (VZ.1 hc) hd
 grind
def yq(ρ:Nat->L Nat)(m m':V)(mb pH:MB):Prop:=ZjF ρ m m' mb pH/\∀k0:Nat,m[k0]?=W (W mb)->Ua ρ m m' mb pH
def KC:PV->Bool
 |.ms _|.ss ..=>Zf
 |_=>Ze
theorem F0{ρ:Nat->L Nat}(h:pH.T.kd=Y):Ua ρ m m' mb pH:=λT hT=>by grind
theorem ID{ρ:Nat->L Nat}:Ua ρ m m' mb mb:=λ_ hT _ ds _ _ hi hj _=>.inl ⟨hT,ds,hi,hj⟩
theorem R4{ρ:Nat->L Nat}{es:C (C PV)}(h:qQ ρ m m' p (.sl es))(hp:KC p=Ze)(gL:es≠[]):p=.sl es:=by
 cases h with
 |c _ _=>rfl
 |SB c=>grind
 |fms=>cases hp
 |fss=>cases hp
theorem Zhy{ρ:Nat->L Nat}{T:TK}{es wz:C (C PV)}(h:Bv ρ m m' es wz)(hn:∀cs∈es,∀p∈cs,KC p=Ze):Ua ρ m m' ⟨T,k,es⟩ ⟨T,k',wz⟩:=λT1 hT i ds j l hi hj gL=>by
 obtain⟨cs,h1,h2⟩:=(u6 h).2 i ds hi;obtain⟨p,h3,h4⟩:=(wH h2).2 j _ hj;have:=R4 h4 (hn cs (VU h1) p (VU h3)) gL
 grind
def qj(rs:C (L Nat))(m m':V):C (L Nat)->V->Prop
 |_,[]=>True
 |r::rr,Y::mm=>qj rs m m' rr mm
 |some k::rr,W pH::mm=>(∃mb,Zp m k=W mb/\yq (gC rs) m m' mb pH)/\qj rs m m' rr mm
 |none::rr,W pH::mm=>(pH.es=[]/\0<pH.k)/\qj rs m m' rr mm
 |_,_=>False
theorem Ro:qj rs m m' rr []:=by unfold qj;simp
theorem ON{r:L Nat}(h:qj rs m m' rr mm):qj rs m m' (r::rr) (Y::mm):=h
theorem OO(h1:Zp m k=W mb)(h2:yq (gC rs) m m' mb pH)(h:qj rs m m' rr mm):qj rs m m' (W k::rr) (W pH::mm):=⟨⟨mb,h1,h2⟩,h⟩
theorem Rn{α:Type}{f:α->C PV}{T:TK}(hk:Zg (0<k)=Ze)(h:qj rs m m' rr mm):qj rs m m' (Y::rr) (W ⟨T,k,([]:C α).map f⟩::mm):=⟨⟨rfl,Yu hk⟩,h⟩
theorem CQ{α:Type}{f:α->C PV}[eE f]{ρ:Nat->L Nat}{T:TK}{xs:C α}:yq ρ m m' ⟨T,k,xs.map f⟩ ⟨T,k,xs.map f⟩:=⟨⟨rfl,rfl,.inl ⟨rfl,Ci⟩⟩,λ_ _=>ID⟩
theorem ZaZ{ρ:Nat->L Nat}{T k:Nat}(h:tQ ρ m m' cs ds):yq ρ m m' ⟨T,k,[cs]⟩ ⟨T,k,[ds]⟩:=⟨⟨rfl,rfl,.inr ⟨h,trivial⟩⟩,λ_ _=>F0 rfl⟩
theorem xG{rs:C (L Nat)}:∀(rr:C (L Nat)) (mm:V),qj rs m m' rr mm->∀l pH,mm[l]?=W (W pH)->(∃k mb,gC rr l=W k/\m[k]?=W (W mb)/\yq (gC rs) m m' mb pH)\/(gC rr l=Y/\pH.es=[]/\0<pH.k)
 |_,[],_,l,pH,h=>by grind
 | [],Y::mm,h,_,_,_=>by unfold qj at h;grind
 | [],W _::mm,h,_,_,_=>by unfold qj at h;grind
 |r::rr,Y::mm,h,l,pH,hl=>by
  cases l with
  |zero=>grind
  |succ l=>exact xG rr mm h l pH YD
 |some k::rr,W mb::mm,h,l,pH,hl=>by
  cases l with
  |zero=>
   obtain rfl:mb=pH:=by grind
   obtain⟨⟨PE,h1,h2⟩,_⟩:=h;exact .inl ⟨k,PE,rfl,kj.1 h1,h2⟩
  |succ l=>exact xG rr mm h.2 l pH YD
 |none::rr,W mb::mm,h,l,pH,hl=>by
  cases l with
  |zero=>
   obtain rfl:mb=pH:=by grind
   exact .inr ⟨rfl,h.1⟩
  |succ l=>exact xG rr mm h.2 l pH YD
def Nv:C (L Nat)->Bool
 | []=>Ze
 |none::rs=>Nv rs
 |some k::rs=>ZkT rs k&&Nv rs
theorem Nw:∀(rs:C (L Nat)),Nv rs=Ze->∀l l' k,gC rs l=W k->gC rs l'=W k->l=l'
 | [],_,l,l',k,h,_=>by simp[gC]at h
 |x::rs,hb,l,l',k,h,h'=>by
  have Qh:∀{j:Nat},x=W k->gC rs j=W k->False:=by
   rintro j rfl hj;simp only[Nv,V7]at hb
   have:=F1 (m':=[]) hb.1;unfold gC at hj
   cases hl:rs[j]? with
   |none=>grind
   |some y=>
    rw[hl]at hj
    have hy:y=W k:=hj;subst hy;have:=VZ.1 hb.1 _ (VU hl)
    grind
  have BJ:Nv rs=true:=by cases x<;>simp_all[Nv]
  cases l with
  |zero=>
   rw[Zc6]at h
   cases l' with
   |zero=>rfl
   |succ l'=>exact(Qh h (by simpa[OL]using h')).elim
  |succ l=>
   rw[OL]at h
   cases l' with
   |zero=>rw[Zc6]at h';grind
   |succ l'=>rw[Nw rs BJ l l' k h (by simpa[OL]using h')]
def yI:Nat->Nat->C (L Nat)->V->Bool
 |0,_,_,_=>Ze
 |_+1,_,_,[]=>Zf
 |n+1,i,rs,Y::m=>yI n (i+1) (rs.drop 1) m
 |n+1,i,W k::rs,W _::m=>Zg (k=i)&&yI n (i+1) rs m
 |_,_,_,_=>Zf
theorem B5:∀(n i:Nat) (rs:C (L Nat)) (m':V),yI n i rs m'=Ze->n<=Zm m'/\∀l,l<n->vU m' l=Ze->gC rs l=W (i+l)
 |0,i,rs,m',_=>⟨Ws _,λl hl=>YA⟩
 |n+1,i,rs,[],h=>by simp[yI]at h
 |n+1,i,rs,Y::m,h=>by
  simp only[yI]at h
  obtain⟨h1,h2⟩:=B5 n (i+1) (rs.drop 1) m h;refine⟨by grind,λl hl vE=>?_⟩
  cases l with
  |zero=>simp[vU]at vE
  |succ l=>
   have:=h2 l YA (by simpa[vU]using vE)
   cases rs with
   |nil=>simp[gC]at this
   |cons x rs=>
    rw[OL]
    grind
 |n+1,i,W k::rs,W mb::m,h=>by
  simp only[yI,V7,decide_eq_true_eq]at h
  obtain⟨h1,h2⟩:=B5 n (i+1) rs m h.2;refine⟨by grind,λl hl vE=>?_⟩
  cases l with
  |zero=>rw[Zc6,h.1];rfl
  |succ l=>
   rw[OL,show i+(l+1)=i+1+l by omega]
   exact h2 l YA (by simpa[vU]using vE)
 |n+1,i,Y::rs,W mb::m,h=>by simp[yI]at h
 |n+1,i,[],W mb::m,h=>by simp[yI]at h
theorem ZhC(hT:HZ (gC rs) m m' t t')(hM:qj rs m m' rs m')(hi:Nv rs=Ze)(hl:yI n0 0 rs m'=Ze):tN n0 t m t' m':=
 .one ⟨gC rs,hT,λl pH hm=>(xG rs m' hM l pH hm).imp (λ⟨k,mb,a,b,c⟩=>⟨k,mb,a,b,c.1,c.2 k b⟩) id,λl l' k _ _=>Nw rs hi l l' k,λl Sk vE=>by
  have:=(B5 n0 0 rs m' hl).2 l Sk vE
  grind,(B5 n0 0 rs m' hl).1⟩
end
end Go.Proofs.YtbjbellffaenaaaGreatDoor
namespace Go.Proofs.YtbjbellffaenaaaGreatDoor
open Go.ChangeShapes Go.WideShapes Go.ChangeAt Go.RowKit Go.Deep
variable {p:PV}{x:Value}
section
variable {H:Type} {enc:TypeId×Value->H} {P:Program} {w:World} {base:Nat} {spare:Nat->Bool} {held:Bool}
theorem Zay(a:Addr)(i j:Nat):(a.add i).add j=a.add (i+j):=by
 unfold Addr.add
 by_cases hi:i=0<;>by_cases hj:j=0<;>simp[hi,hj,XU]
end
def Reads(w:World)(ps:C PV)(cs:C Value):Prop:=
 (Zm ps)=Zm cs/\∀(j:Nat) (p:PV) (x:Value),ps[j]?=W p->cs[j]?=W x->x.oneCell'=Ze/\eO w (λb=>b<w.heap.size) p x
def Zhd(P:Program)(t:TypeId){α:Type}(f:α->C PV)(ok:α->Prop):Prop:=
 ∀{H:Type} {enc:TypeId×Value->H} {w:World} {base:Nat} {spare:Nat->Bool} {held:Bool} {fuel:Nat} {cs:C Value} {x:DataW H×C MemPlace},
  DataW.trod enc P w base spare held fuel t cs=W x->∃a:α,Reads w (f a) cs/\ok a
section
variable {w:World}
theorem zC(h1:x.oneCell'=Ze)(h:eO w (λb=>b<w.heap.size) p x):Reads w [p] [x]:=by
 refine⟨rfl,λj c y hj hy=>?_⟩
 grind
theorem reads_rep1(h:Reads w [p] [x]):eC w (E1 (λb=>b<w.heap.size) (λ_=>Y) 0) p x:=.c (h.2 0 p x rfl rfl).2
end
section
variable {P:Program}
theorem decP_slice{α:Type}{f:α->C PV}{ok:α->Prop}{t e:TypeId}(ht:P.underlying t=W (.slice e))(hk:0<P.cellsOf e)(Zmj:Zhd P e f ok):
 Zhd P t (λxs:C α=>[.sl (xs.map f)]) (λxs=>Zm xs<=maxLen/\∀y∈xs,ok y):=by
 intro H enc w base spare held fuel cs x h
 rcases open_slice ht h with⟨rfl,_⟩ |⟨a,n,c,m,k,D,Pl,rfl,_,hl,hm,hmm,_,hi⟩
 ·exact⟨[],zC rfl (.nil _ _),by simp,by simp⟩
 have hnm:n<=m:=by grind
 have hex:∀i:_root_.Fin n,∃(a':α) (rW:C Value),ok a'/\Reads w (f a') rW/\w.cells? base (a.add (i*P.cellsOf e)) (P.cellsOf e)=W rW:=by
  intro i;obtain⟨rW,hc,Ey⟩:=hi i YA;obtain⟨a',hr,hok⟩:=Zmj Ey
  grind
 obtain⟨g,hg⟩:=Xk hex;obtain⟨cc,ta⟩:=Xk hg;refine⟨XD g,?_,by grind,λy hy=>by grind⟩
 rcases Nat.eq_zero_or_pos n with h0|iZ
 ·subst h0
  rw[List.ofFn_zero];exact zC rfl (.nil _ _)
 have uu:∀(i:_root_.Fin n) (j:Nat),j<P.cellsOf e->w.cell? (a.add (i*P.cellsOf e+j))=(cc i)[j]?:=by
  intro i j hj;obtain⟨_,_,h3⟩:=World.cells?_some (ta i).2.2;have:=h3 j hj
  rwa[Zay]at this
 have hlen:∀i:_root_.Fin n,Zm (cc i)=P.cellsOf e:=λi=>(World.cells?_some (ta i).2.2).2.1
 have Qb:w.cell? (a.add (0*P.cellsOf e+0))=W ((cc ⟨0,iZ⟩)[0]' YG):=by
  rw[uu ⟨0,iZ⟩ 0 hk];simp
 have hs:=World.cell?_spot Qb;have hb:=World.block_lt_of_cell? _ _ Qb;obtain⟨b,off,spot⟩:=a;have ZjW:∀q,(⟨b,off,Y⟩:Addr).add q=⟨b,off+q,Y⟩:=λq=>by unfold Addr.add;simp
 have Zks:spot=none:=by simpa[Addr.add]using hs
 subst Zks;rw[ZjW]at hb
 have Ax:∀(i:Nat) (ps:C PV),((XD g).map f)[i]?=W ps->∃hi:i<n,ps=f (g ⟨i,hi⟩):=by
  simp
 have hu:∀(i:Nat) (ps:C PV) (j:Nat) (p:PV),((XD g).map f)[i]?=W ps->ps[j]?=W p->
  ∃x,w.cell? ⟨b,off+i*P.cellsOf e+j,Y⟩=W x/\x.oneCell'=Ze/\eO w (λb=>b<w.heap.size) p x:=by
  intro i ps j p Qj hp;obtain⟨hi,rfl⟩:=Ax i ps Qj;have hr:=(ta ⟨i,hi⟩).2.1;have hj:j<P.cellsOf e:=by rw[<-hlen ⟨i,hi⟩,<-hr.1];grind
  have hx:=uu ⟨i,hi⟩ j hj;rw[ZjW,<-XU]at hx
  have H7:j<Zm (cc ⟨i,hi⟩):=by simp_all
  rw[VS H7]at hx
  exact⟨_,hx,hr.2 j p _ hp (VS H7)⟩
 have h:=eO.sl (w:=w) (S:=λb=>b<w.heap.size) ((XD g).map f) b off (P.cellsOf e) c (λi j=>(w.cell? ⟨b,off+i*P.cellsOf e+j,Y⟩).getD .nilIface) hb hk YG hm
  (λi ps Qj=>by obtain⟨hi,rfl⟩:=Ax i ps Qj;rw[(ta ⟨i,hi⟩).2.1.1,hlen])
  (λi ps j p Qj hp=>by grind)
  (λi ps j p Qj hp=>by grind)
  (λi ps j p Qj hp=>by grind)
 simp only[Wi,List.length_ofFn]at h
 exact zC rfl h
theorem CallOk.run{f:FuncId}{args:C PV}{b:Bool}(h:CallOk P f args (vb b) []){w:World}(ht:DM w (oW λ_=>Y)){vs:Zo Value}(hl:vs.size=Zm args)(ha:∀(i:Nat) (p:PV),args[i]?=W p->∃x,vs[i]?=W x/\eC w (E1 (λb=>b<w.heap.size) (λ_=>Y) 0) p x):
 Calls P f vs w λe w'=>e=.returned (.bool b)/\Up w w':=by
 have zZ:∀{b':Nat},oW (λ_=>Y) b'->False:=by rintro b' ⟨l,B,h,_⟩;cases h
 have hok:Ok w (oW λ_=>Y) (E1 (λb=>b<w.heap.size) (λ_=>Y) 0) w []:=
  ⟨Fs.refl _ _,λb h=>h,λl B h=>YM,λl l' B B' h=>YM,λl h=>Zq h (Nat.not_lt_zero l),λl B h=>YM,λl mb h=>YD,λl B h=>YM,ht,λ_ _ h=>h.elim⟩
 refine(h (λb=>b<w.heap.size) (λ_=>Y) w vs (λ_ _=>False) hok hl ha).mono ?_
 rintro e w' ⟨v,E',rfl,hk,_,_,_,hr⟩
 cases hr with
 |c hr=>cases hr;exact⟨rfl,⟨hk.up.os,hk.up.tape,hk.up.output,hk.up.size,λb hb=>hk.up.block b hb λh=>zZ h⟩⟩
end
end Go.Proofs.YtbjbellffaenaaaGreatDoor
namespace Go.Proofs.YtbjbellffaenaaaGreatDoor
open Go.RowKit
variable {I7 base i k k' l nu r wd ν ν':Nat}{KD:C LE->C PV->V->Prop}{Oz cs ds ps zc:C PV}{T T':TypeId}{T2:TK}{b io:Bool}{d:L Tmp}{e':Exit}{es es2 wz:C (C PV)}{fl:C Nat}{g g':C LE}{hi lo:L PV}{n y:C PV->Prop}{o:Op}{oo:Oper}{op:BinOp}{ops:Zo Oper}{p p' x x' y':PV}{rest:C Oper}{α β:Type}{ρ:Nat->L Nat}{A B:L α}{f:α->C PV}
abbrev aW(x:Int):C PV:=[vi x]
abbrev jQ(x:ByteArray):C PV:=[vs x]
abbrev FM(x:Bool):C PV:=[vb x]
def ZkO(n:Int):Prop:=(Lit.int .i64 n).wf=Ze
@[ext] structure bt where
 ax:Int
 bU:Int
 aZ:ByteArray
 deriving X
abbrev sj(x:bt):C PV:=[vi x.ax,vi x.bU,vs x.aZ]
@[ext] structure aP where
 label:bt
 ar:ByteArray
 ah:Int
 bJ:C Int
 value:Int
 deriving X
abbrev cd(x:aP):C PV:=[vi x.label.ax,vi x.label.bU,vs x.label.aZ,vs x.ar,vi x.ah,.sl (x.bJ.map aW),vi x.value]
@[ext] structure cB where
 first:ByteArray
 last:ByteArray
 deriving X
abbrev dV(x:cB):C PV:=[vs x.first,vs x.last]
@[ext] structure bH where
 pG:Int
 ax:Int
 qo:Int
 nQ:Int
 deriving X
abbrev dK(x:bH):C PV:=[vi x.pG,vi x.ax,vi x.qo,vi x.nQ]
@[ext] structure bP where
 ar:ByteArray
 aZ:ByteArray
 start:Int
 o8:Int
 yr:Int
 jb:Int
 deriving X
abbrev cY(x:bP):C PV:=[vs x.ar,vs x.aZ,vi x.start,vi x.o8,vi x.yr,vi x.jb]
@[ext] structure ab where
 aC:C bP
 off:C Int
 change:Int
 deriving X
abbrev aT(x:ab):C PV:=[.sl (x.aC.map cY),.sl (x.off.map aW),vi x.change]
@[ext] structure au where
 bq:Int
 day:Int
 deriving X
abbrev bg(x:au):C PV:=[vi x.bq,vi x.day]
@[ext] structure aq where
 aR:Int
 aN:au
 ah:Int
 deriving X
abbrev aG(x:aq):C PV:=[vi x.aR,vi x.aN.bq,vi x.aN.day,vi x.ah]
@[ext] structure aI where
 aR:Int
 aQ:Int
 kind:Int
 place:ByteArray
 aN:au
 deriving X
abbrev bA(x:aI):C PV:=[vi x.aR,vi x.aQ,vi x.kind,vs x.place,vi x.aN.bq,vi x.aN.day]
@[ext] structure ay where
 ar:ByteArray
 aZ:ByteArray
 ax:Int
 ah:Int
 aQ:Int
 fc:Int
 aE:C au
 aH:Int
 state:Int
 place:ByteArray
 bK:Int
 deriving X
abbrev bx(x:ay):C PV:=[vs x.ar,vs x.aZ,vi x.ax,vi x.ah,vi x.aQ,vi x.fc,.sl (x.aE.map bg),vi x.aH,vi x.state,vs x.place,vi x.bK]
@[ext] structure aw where
 aa:ab
 ae:C ay
 av:C aq
 ak:C au
 now:Int
 aL:C aI
 skip:C Int
 br:Int
 deriving X
abbrev cL(x:aw):C PV:=[.sl (x.aa.aC.map cY),.sl (x.aa.off.map aW),vi x.aa.change,.sl (x.ae.map bx),.sl (x.av.map aG),.sl (x.ak.map bg),vi x.now,.sl (x.aL.map bA),.sl (x.skip.map aW),vi x.br]
@[ext] structure bf where
 order:Int
 kind:Int
 bE:Int
 aQ:Int
 deriving X
abbrev bV(x:bf):C PV:=[vi x.order,vi x.kind,vi x.bE,vi x.aQ]
@[ext] structure bk where
 kind:Int
 aM:aP
 order:Int
 bE:Int
 bG:Int
 aN:au
 deriving X
abbrev fQ(x:bk):C PV:=[vi x.kind,vi x.aM.label.ax,vi x.aM.label.bU,vs x.aM.label.aZ,vs x.aM.ar,vi x.aM.ah,.sl (x.aM.bJ.map aW),vi x.aM.value,vi x.order,vi x.bE,vi x.bG,vi x.aN.bq,vi x.aN.day]
@[ext] structure aD where
 world:aw
 bb:C cB
 bd:C bH
 aU:C Int
 aK:C aP
 lines:C bf
 aF:C bk
 deriving X
abbrev eD(x:aD):C PV:=[.sl (x.world.aa.aC.map cY),.sl (x.world.aa.off.map aW),vi x.world.aa.change,.sl (x.world.ae.map bx),.sl (x.world.av.map aG),.sl (x.world.ak.map bg),vi x.world.now,.sl (x.world.aL.map bA),.sl (x.world.skip.map aW),vi x.world.br,.sl (x.bb.map dV),.sl (x.bd.map dK),.sl (x.aU.map aW),.sl (x.aK.map cd),.sl (x.lines.map bV),.sl (x.aF.map fQ)]
abbrev zg:C PV:=[.v (.slice Y 0 0),.v (.slice Y 0 0),vi 0,.v (.slice Y 0 0),.v (.slice Y 0 0),.v (.slice Y 0 0),vi 0,.v (.slice Y 0 0),.v (.slice Y 0 0),vi 0]
abbrev uy:C PV:=[.v (.slice Y 0 0),.v (.slice Y 0 0),vi 0,.v (.slice Y 0 0),.v (.slice Y 0 0),.v (.slice Y 0 0),vi 0,.v (.slice Y 0 0),.v (.slice Y 0 0),vi 0,.v (.slice Y 0 0),.v (.slice Y 0 0),.v (.slice Y 0 0),.v (.slice Y 0 0),.v (.slice Y 0 0),.v (.slice Y 0 0)]
@[ext] structure L7 where
 id:Int
 dest:Int
 deriving X
abbrev zW(x:L7):C PV:=[vi x.id,vi x.dest]
@[ext] structure PL where
 cell:Int
 jb:Int
 held:C L7
 deriving X
abbrev CN(x:PL):C PV:=[vi x.cell,vi x.jb,.sl (x.held.map zW)]
@[ext] structure PM where
 cell:Int
 wait:C L7
 deriving X
abbrev CO(x:PM):C PV:=[vi x.cell,.sl (x.wait.map zW)]
@[ext] structure RS where
 ZlJ:C L7
 Zhs:C PL
 Zie:C PM
 Zm7:C Int
 now:Int
 deriving X
abbrev Bm(x:RS):C PV:=[.sl (x.ZlJ.map zW),.sl (x.Zhs.map CN),.sl (x.Zie.map CO),.sl (x.Zm7.map aW),vi x.now]
@[ext] structure Zau where
 id:Int
 own:Int
 jb:Int
 in_:Int
 box:Bool
 ZiK:Bool
 deriving X
abbrev Ap(x:Zau):C PV:=[vi x.id,vi x.own,vi x.jb,vi x.in_,vb x.box,vb x.ZiK]
@[ext] structure A9 where
 places:C ByteArray
 Af:C au
 deriving X
abbrev Bl(x:A9):C PV:=[.sl (x.places.map jQ),.sl (x.Af.map bg)]
@[go_sem] theorem tq2:prog.cellsOf 2=1/\prog.bytesOf 2=8/\pz prog 2=W [.v (Z Zi 0)]:=by and_intros<;>kernel_rfl
@[go_sem] theorem tq3:prog.cellsOf 3=1/\prog.bytesOf 3=8/\pz prog 3=W [.v (Z Zi 0)]:=by and_intros<;>kernel_rfl
@[go_sem] theorem tq4:prog.cellsOf 4=1/\prog.bytesOf 4=1/\pz prog 4=W [.v (.bool Zf)]:=by and_intros<;>kernel_rfl
@[go_sem] theorem tq5:prog.cellsOf 5=1/\prog.bytesOf 5=1/\pz prog 5=W [.v (.int .u8 0)]:=by and_intros<;>kernel_rfl
@[go_sem] theorem tq9:prog.cellsOf 9=1/\prog.bytesOf 9=16/\pz prog 9=W [.v (.string ⟨#[]⟩)]:=by and_intros<;>kernel_rfl
@[go_sem] theorem Zoo:prog.cellsOf 12=1/\prog.bytesOf 12=8/\pz prog 12=W [.v (.int .u64 0)]:=by and_intros<;>kernel_rfl
@[go_sem] theorem Zop:prog.cellsOf 21=1/\prog.bytesOf 21=4/\pz prog 21=W [.v (.int .i32 0)]:=by and_intros<;>kernel_rfl
@[go_sem] theorem Zoq:prog.cellsOf 22=1/\prog.bytesOf 22=24/\pz prog 22=W [.v (.slice Y 0 0)]/\lK prog 22=1:=by and_intros<;>kernel_rfl
@[go_sem] theorem Zor:prog.cellsOf 24=1/\prog.bytesOf 24=24/\pz prog 24=W [.v (.slice Y 0 0)]/\lK prog 24=6:=by and_intros<;>kernel_rfl
@[go_sem] theorem Zos:prog.cellsOf 25=1/\prog.bytesOf 25=24/\pz prog 25=W [.v (.slice Y 0 0)]/\lK prog 25=1:=by and_intros<;>kernel_rfl
@[go_sem] theorem Zot:prog.cellsOf 26=3/\prog.bytesOf 26=56/\pz prog 26=W [.v (.slice Y 0 0),.v (.slice Y 0 0),.v (Z Zi 0)]/\prog.eqGuardType prog.depth 26=Zf/\prog.stoodInHeld 26=false:=by and_intros<;>kernel_rfl
@[go_sem] theorem Zou:prog.cellsOf 27=3/\prog.bytesOf 27=56/\pz prog 27=W [.v (.slice Y 0 0),.v (.slice Y 0 0),.v (Z Zi 0)]/\prog.eqGuardType prog.depth 27=Zf/\prog.stoodInHeld 27=false:=by and_intros<;>kernel_rfl
@[go_sem] theorem Zov:prog.cellsOf 28=1/\prog.bytesOf 28=24/\pz prog 28=W [.v (.slice Y 0 0)]/\lK prog 28=11:=by and_intros<;>kernel_rfl
@[go_sem] theorem Zow:prog.cellsOf 29=1/\prog.bytesOf 29=24/\pz prog 29=W [.v (.slice Y 0 0)]/\lK prog 29=4:=by and_intros<;>kernel_rfl
@[go_sem] theorem Zox:prog.cellsOf 30=1/\prog.bytesOf 30=24/\pz prog 30=W [.v (.slice Y 0 0)]/\lK prog 30=2:=by and_intros<;>kernel_rfl
@[go_sem] theorem Zoy:prog.cellsOf 31=1/\prog.bytesOf 31=24/\pz prog 31=W [.v (.slice Y 0 0)]/\lK prog 31=6:=by and_intros<;>kernel_rfl
@[go_sem] theorem Zoz:prog.cellsOf 32=10/\prog.bytesOf 32=192/\pz prog 32=W [.v (.slice Y 0 0),.v (.slice Y 0 0),.v (Z Zi 0),.v (.slice Y 0 0),.v (.slice Y 0 0),.v (.slice Y 0 0),.v (Z Zi 0),.v (.slice Y 0 0),.v (.slice Y 0 0),.v (Z Zi 0)]/\prog.eqGuardType prog.depth 32=Zf/\prog.stoodInHeld 32=false:=by and_intros<;>kernel_rfl
@[go_sem] theorem ZoA:prog.cellsOf 33=10/\prog.bytesOf 33=192/\pz prog 33=W [.v (.slice Y 0 0),.v (.slice Y 0 0),.v (Z Zi 0),.v (.slice Y 0 0),.v (.slice Y 0 0),.v (.slice Y 0 0),.v (Z Zi 0),.v (.slice Y 0 0),.v (.slice Y 0 0),.v (Z Zi 0)]/\prog.eqGuardType prog.depth 33=Zf/\prog.stoodInHeld 33=false:=by and_intros<;>kernel_rfl
@[go_sem] theorem ZoB:prog.cellsOf 34=1/\prog.bytesOf 34=24/\pz prog 34=W [.v (.slice Y 0 0)]/\lK prog 34=2:=by and_intros<;>kernel_rfl
@[go_sem] theorem ZoC:prog.cellsOf 35=1/\prog.bytesOf 35=24/\pz prog 35=W [.v (.slice Y 0 0)]/\lK prog 35=4:=by and_intros<;>kernel_rfl
@[go_sem] theorem ZoD:prog.cellsOf 36=1/\prog.bytesOf 36=24/\pz prog 36=W [.v (.slice Y 0 0)]/\lK prog 36=7:=by and_intros<;>kernel_rfl
@[go_sem] theorem ZoE:prog.cellsOf 37=1/\prog.bytesOf 37=24/\pz prog 37=W [.v (.slice Y 0 0)]/\lK prog 37=4:=by and_intros<;>kernel_rfl
@[go_sem] theorem ZoF:prog.cellsOf 38=1/\prog.bytesOf 38=24/\pz prog 38=W [.v (.slice Y 0 0)]/\lK prog 38=13:=by and_intros<;>kernel_rfl
@[go_sem] theorem ZoG:prog.cellsOf 39=16/\prog.bytesOf 39=336/\pz prog 39=W [.v (.slice Y 0 0),.v (.slice Y 0 0),.v (Z Zi 0),.v (.slice Y 0 0),.v (.slice Y 0 0),.v (.slice Y 0 0),.v (Z Zi 0),.v (.slice Y 0 0),.v (.slice Y 0 0),.v (Z Zi 0),.v (.slice Y 0 0),.v (.slice Y 0 0),.v (.slice Y 0 0),.v (.slice Y 0 0),.v (.slice Y 0 0),.v (.slice Y 0 0)]/\prog.eqGuardType prog.depth 39=Zf/\prog.stoodInHeld 39=false:=by and_intros<;>kernel_rfl
@[go_sem] theorem ZoH:prog.cellsOf 40=16/\prog.bytesOf 40=336/\pz prog 40=W [.v (.slice Y 0 0),.v (.slice Y 0 0),.v (Z Zi 0),.v (.slice Y 0 0),.v (.slice Y 0 0),.v (.slice Y 0 0),.v (Z Zi 0),.v (.slice Y 0 0),.v (.slice Y 0 0),.v (Z Zi 0),.v (.slice Y 0 0),.v (.slice Y 0 0),.v (.slice Y 0 0),.v (.slice Y 0 0),.v (.slice Y 0 0),.v (.slice Y 0 0)]/\prog.eqGuardType prog.depth 40=Zf/\prog.stoodInHeld 40=false:=by and_intros<;>kernel_rfl
@[go_sem] theorem ZoI:prog.cellsOf 47=2/\prog.bytesOf 47=16/\pz prog 47=W [.v (Z Zi 0),.v (Z Zi 0)]/\prog.eqGuardType prog.depth 47=Zf/\prog.stoodInHeld 47=false:=by and_intros<;>kernel_rfl
@[go_sem] theorem Pk:prog.cellsOf 48=2/\prog.bytesOf 48=16/\pz prog 48=W [.v (Z Zi 0),.v (Z Zi 0)]/\prog.eqGuardType prog.depth 48=Zf/\prog.stoodInHeld 48=false:=by and_intros<;>kernel_rfl
@[go_sem] theorem ZoJ:prog.cellsOf 49=4/\prog.bytesOf 49=32/\pz prog 49=W [.v (Z Zi 0),.v (Z Zi 0),.v (Z Zi 0),.v (Z Zi 0)]/\prog.eqGuardType prog.depth 49=Zf/\prog.stoodInHeld 49=false:=by and_intros<;>kernel_rfl
@[go_sem] theorem Zgu:prog.cellsOf 50=4/\prog.bytesOf 50=32/\pz prog 50=W [.v (Z Zi 0),.v (Z Zi 0),.v (Z Zi 0),.v (Z Zi 0)]/\prog.eqGuardType prog.depth 50=Zf/\prog.stoodInHeld 50=false:=by and_intros<;>kernel_rfl
@[go_sem] theorem ZoK:prog.cellsOf 55=3/\prog.bytesOf 55=32/\pz prog 55=W [.v (Z Zi 0),.v (Z Zi 0),.v (.string ⟨#[]⟩)]/\prog.eqGuardType prog.depth 55=Zf/\prog.stoodInHeld 55=false:=by and_intros<;>kernel_rfl
@[go_sem] theorem Zgv:prog.cellsOf 56=3/\prog.bytesOf 56=32/\pz prog 56=W [.v (Z Zi 0),.v (Z Zi 0),.v (.string ⟨#[]⟩)]/\prog.eqGuardType prog.depth 56=Zf/\prog.stoodInHeld 56=false:=by and_intros<;>kernel_rfl
@[go_sem] theorem ZoL:prog.cellsOf 57=7/\prog.bytesOf 57=88/\pz prog 57=W [.v (Z Zi 0),.v (Z Zi 0),.v (.string ⟨#[]⟩),.v (.string ⟨#[]⟩),.v (Z Zi 0),.v (.slice Y 0 0),.v (Z Zi 0)]/\prog.eqGuardType prog.depth 57=Zf/\prog.stoodInHeld 57=false:=by and_intros<;>kernel_rfl
@[go_sem] theorem ZoM:prog.cellsOf 58=7/\prog.bytesOf 58=88/\pz prog 58=W [.v (Z Zi 0),.v (Z Zi 0),.v (.string ⟨#[]⟩),.v (.string ⟨#[]⟩),.v (Z Zi 0),.v (.slice Y 0 0),.v (Z Zi 0)]/\prog.eqGuardType prog.depth 58=Zf/\prog.stoodInHeld 58=false:=by and_intros<;>kernel_rfl
@[go_sem] theorem ZoN:prog.cellsOf 59=13/\prog.bytesOf 59=136/\pz prog 59=W [.v (Z Zi 0),.v (Z Zi 0),.v (Z Zi 0),.v (.string ⟨#[]⟩),.v (.string ⟨#[]⟩),.v (Z Zi 0),.v (.slice Y 0 0),.v (Z Zi 0),.v (Z Zi 0),.v (Z Zi 0),.v (Z Zi 0),.v (Z Zi 0),.v (Z Zi 0)]/\prog.eqGuardType prog.depth 59=Zf/\prog.stoodInHeld 59=false:=by and_intros<;>kernel_rfl
@[go_sem] theorem ZoO:prog.cellsOf 60=13/\prog.bytesOf 60=136/\pz prog 60=W [.v (Z Zi 0),.v (Z Zi 0),.v (Z Zi 0),.v (.string ⟨#[]⟩),.v (.string ⟨#[]⟩),.v (Z Zi 0),.v (.slice Y 0 0),.v (Z Zi 0),.v (Z Zi 0),.v (Z Zi 0),.v (Z Zi 0),.v (Z Zi 0),.v (Z Zi 0)]/\prog.eqGuardType prog.depth 60=Zf/\prog.stoodInHeld 60=false:=by and_intros<;>kernel_rfl
@[go_sem] theorem ZoP:prog.cellsOf 62=11/\prog.bytesOf 62=128/\pz prog 62=W [.v (.string ⟨#[]⟩),.v (.string ⟨#[]⟩),.v (Z Zi 0),.v (Z Zi 0),.v (Z Zi 0),.v (Z Zi 0),.v (.slice Y 0 0),.v (Z Zi 0),.v (Z Zi 0),.v (.string ⟨#[]⟩),.v (Z Zi 0)]/\prog.eqGuardType prog.depth 62=Zf/\prog.stoodInHeld 62=false:=by and_intros<;>kernel_rfl
@[go_sem] theorem ZoQ:prog.cellsOf 63=11/\prog.bytesOf 63=128/\pz prog 63=W [.v (.string ⟨#[]⟩),.v (.string ⟨#[]⟩),.v (Z Zi 0),.v (Z Zi 0),.v (Z Zi 0),.v (Z Zi 0),.v (.slice Y 0 0),.v (Z Zi 0),.v (Z Zi 0),.v (.string ⟨#[]⟩),.v (Z Zi 0)]/\prog.eqGuardType prog.depth 63=Zf/\prog.stoodInHeld 63=false:=by and_intros<;>kernel_rfl
@[go_sem] theorem ZoR:prog.cellsOf 81=4/\prog.bytesOf 81=32/\pz prog 81=W [.v (Z Zi 0),.v (Z Zi 0),.v (Z Zi 0),.v (Z Zi 0)]/\prog.eqGuardType prog.depth 81=Zf/\prog.stoodInHeld 81=false:=by and_intros<;>kernel_rfl
@[go_sem] theorem Zgw:prog.cellsOf 82=4/\prog.bytesOf 82=32/\pz prog 82=W [.v (Z Zi 0),.v (Z Zi 0),.v (Z Zi 0),.v (Z Zi 0)]/\prog.eqGuardType prog.depth 82=Zf/\prog.stoodInHeld 82=false:=by and_intros<;>kernel_rfl
@[go_sem] theorem ZoS:prog.cellsOf 84=1/\prog.bytesOf 84=24/\pz prog 84=W [.v (.slice Y 0 0)]/\lK prog 84=1:=by and_intros<;>kernel_rfl
@[go_sem] theorem ZoT:prog.cellsOf 88=6/\prog.bytesOf 88=56/\pz prog 88=W [.v (Z Zi 0),.v (Z Zi 0),.v (Z Zi 0),.v (.string ⟨#[]⟩),.v (Z Zi 0),.v (Z Zi 0)]/\prog.eqGuardType prog.depth 88=Zf/\prog.stoodInHeld 88=false:=by and_intros<;>kernel_rfl
@[go_sem] theorem Zgx:prog.cellsOf 89=6/\prog.bytesOf 89=56/\pz prog 89=W [.v (Z Zi 0),.v (Z Zi 0),.v (Z Zi 0),.v (.string ⟨#[]⟩),.v (Z Zi 0),.v (Z Zi 0)]/\prog.eqGuardType prog.depth 89=Zf/\prog.stoodInHeld 89=false:=by and_intros<;>kernel_rfl
@[go_sem] theorem ZnC:prog.cellsOf 100=6/\prog.bytesOf 100=64/\pz prog 100=W [.v (.string ⟨#[]⟩),.v (.string ⟨#[]⟩),.v (Z Zi 0),.v (Z Zi 0),.v (Z Zi 0),.v (Z Zi 0)]/\prog.eqGuardType prog.depth 100=Zf/\prog.stoodInHeld 100=false:=by and_intros<;>kernel_rfl
@[go_sem] theorem Tn:prog.cellsOf 101=6/\prog.bytesOf 101=64/\pz prog 101=W [.v (.string ⟨#[]⟩),.v (.string ⟨#[]⟩),.v (Z Zi 0),.v (Z Zi 0),.v (Z Zi 0),.v (Z Zi 0)]/\prog.eqGuardType prog.depth 101=Zf/\prog.stoodInHeld 101=false:=by and_intros<;>kernel_rfl
@[go_sem] theorem ZnD:prog.cellsOf 123=2/\prog.bytesOf 123=32/\pz prog 123=W [.v (.string ⟨#[]⟩),.v (.string ⟨#[]⟩)]/\prog.eqGuardType prog.depth 123=Zf/\prog.stoodInHeld 123=false:=by and_intros<;>kernel_rfl
@[go_sem] theorem To:prog.cellsOf 124=2/\prog.bytesOf 124=32/\pz prog 124=W [.v (.string ⟨#[]⟩),.v (.string ⟨#[]⟩)]/\prog.eqGuardType prog.depth 124=Zf/\prog.stoodInHeld 124=false:=by and_intros<;>kernel_rfl
@[go_sem] theorem ZnE:prog.cellsOf 126=4/\prog.bytesOf 126=32/\pz prog 126=W [.v (Z Zi 0),.v (Z Zi 0),.v (Z Zi 0),.v (Z Zi 0)]/\prog.eqGuardType prog.depth 126=Zf/\prog.stoodInHeld 126=false:=by and_intros<;>kernel_rfl
@[go_sem] theorem Tp:prog.cellsOf 127=4/\prog.bytesOf 127=32/\pz prog 127=W [.v (Z Zi 0),.v (Z Zi 0),.v (Z Zi 0),.v (Z Zi 0)]/\prog.eqGuardType prog.depth 127=Zf/\prog.stoodInHeld 127=false:=by and_intros<;>kernel_rfl
@[go_sem] theorem ZnF:prog.cellsOf 132=3/\prog.bytesOf 132=40/\pz prog 132=W [.v (.slice Y 0 0),.v (Z Zi 0),.v (Z Zi 0)]/\prog.eqGuardType prog.depth 132=Zf/\prog.stoodInHeld 132=false:=by and_intros<;>kernel_rfl
@[go_sem] theorem ZnG:prog.cellsOf 133=3/\prog.bytesOf 133=40/\pz prog 133=W [.v (.slice Y 0 0),.v (Z Zi 0),.v (Z Zi 0)]/\prog.eqGuardType prog.depth 133=Zf/\prog.stoodInHeld 133=false:=by and_intros<;>kernel_rfl
@[go_sem] theorem ZnH:prog.cellsOf 159=2/\prog.bytesOf 159=24/\pz prog 159=W [.v (.string ⟨#[]⟩),.v (Z Zi 0)]/\prog.eqGuardType prog.depth 159=Zf/\prog.stoodInHeld 159=false:=by and_intros<;>kernel_rfl
@[go_sem] theorem ZnI:prog.cellsOf 160=2/\prog.bytesOf 160=24/\pz prog 160=W [.v (.string ⟨#[]⟩),.v (Z Zi 0)]/\prog.eqGuardType prog.depth 160=Zf/\prog.stoodInHeld 160=false:=by and_intros<;>kernel_rfl
@[go_sem] theorem ZnJ:prog.cellsOf 161=15/\prog.bytesOf 161=168/\pz prog 161=W [.v (.slice Y 0 0),.v (.slice Y 0 0),.v (Z Zi 0),.v (Z Zi 0),.v (.bool Zf),.v (.string ⟨#[]⟩),.v (Z Zi 0),.v (Z Zi 0),.v (.bool Zf),.v (.bool Zf),.v (.string ⟨#[]⟩),.v (Z Zi 0),.v (.string ⟨#[]⟩),.v (Z Zi 0),.v (.bool Zf)]/\prog.eqGuardType prog.depth 161=Zf/\prog.stoodInHeld 161=false:=by and_intros<;>kernel_rfl
@[go_sem] theorem ZnK:prog.cellsOf 162=15/\prog.bytesOf 162=168/\pz prog 162=W [.v (.slice Y 0 0),.v (.slice Y 0 0),.v (Z Zi 0),.v (Z Zi 0),.v (.bool Zf),.v (.string ⟨#[]⟩),.v (Z Zi 0),.v (Z Zi 0),.v (.bool Zf),.v (.bool Zf),.v (.string ⟨#[]⟩),.v (Z Zi 0),.v (.string ⟨#[]⟩),.v (Z Zi 0),.v (.bool Zf)]/\prog.eqGuardType prog.depth 162=Zf/\prog.stoodInHeld 162=false:=by and_intros<;>kernel_rfl
@[go_sem] theorem ZnL:prog.cellsOf 199=1/\prog.bytesOf 199=24/\pz prog 199=W [.v (.slice Y 0 0)]/\lK prog 199=1:=by and_intros<;>kernel_rfl
@[go_sem] theorem ZnM:prog.cellsOf 201=1/\prog.bytesOf 201=8/\pz prog 201=W [.v (.int .u64 0)]:=by and_intros<;>kernel_rfl
@[go_sem] theorem ZnN:prog.cellsOf 282=1/\prog.bytesOf 282=4/\pz prog 282=W [.v (.int .u32 0)]:=by and_intros<;>kernel_rfl
@[go_sem] theorem ZnO:prog.cellsOf 284=1/\prog.bytesOf 284=8/\pz prog 284=W [.v (.int .u64 0)]:=by and_intros<;>kernel_rfl
attribute [go_sem] Tryz.underlying2 Tryz.underlying3 Tryz.underlying4 Tryz.underlying5 Tryz.underlying9 Tryz.underlying12 Tryz.underlying21 Tryz.underlying22 Tryz.underlying24 Tryz.underlying25 Tryz.underlying26 Tryz.underlying27 Tryz.underlying28 Tryz.underlying29 Tryz.underlying30 Tryz.underlying31 Tryz.underlying32 Tryz.underlying33 Tryz.underlying34 Tryz.underlying35 Tryz.underlying36 Tryz.underlying37 Tryz.underlying38 Tryz.underlying39 Tryz.underlying40 Tryz.underlying47 Tryz.underlying48 Tryz.underlying49 Tryz.underlying50 Tryz.underlying55 Tryz.underlying56 Tryz.underlying57 Tryz.underlying58 Tryz.underlying59 Tryz.underlying60 Tryz.underlying62 Tryz.underlying63 Tryz.underlying81 Tryz.underlying82 Tryz.underlying84 Tryz.underlying88 Tryz.underlying89 Tryz.underlying100 Tryz.underlying101 Tryz.underlying123 Tryz.underlying124 Tryz.underlying126 Tryz.underlying127 Tryz.underlying132 Tryz.underlying133 Tryz.underlying159 Tryz.underlying160 Tryz.underlying161 Tryz.underlying162 Tryz.underlying199 Tryz.underlying201 Tryz.underlying282 Tryz.underlying284
theorem zt {P : Program} (h : (match P.funcs[k]? with | some f => f.body.isSome && !(f.name == "runtime.NumGoroutine") | none => Zf) = Ze) : wk P k := by
 split at h
 ·rename_i f e
  simp only[V7,Bool.not_eq_true']at h
  exact⟨f,e,h.1,h.2⟩
 ·cases h
theorem fb0 : (Wj 192).all (λk => Zg (k < 2) || match prog.funcs[k]? with | some f => f.body.isSome && !(f.name == "runtime.NumGoroutine") | none => Zf) = true := by kernel_rfl
@[go_sem] theorem fr0(h:2<=k)(h2:k<192):wk prog k:=zt (by
 have:=VZ.1 fb0 k (W3.2 h2);rw[Yt YA]at this
 exact this)
theorem fb1 : (Wj 235).all (λk => Zg (k < 193) || match prog.funcs[k]? with | some f => f.body.isSome && !(f.name == "runtime.NumGoroutine") | none => Zf) = true := by kernel_rfl
@[go_sem] theorem fr1(h:193<=k)(h2:k<235):wk prog k:=zt (by
 have:=VZ.1 fb1 k (W3.2 h2);rw[Yt YA]at this
 exact this)
theorem fb2 : (Wj 285).all (λk => Zg (k < 236) || match prog.funcs[k]? with | some f => f.body.isSome && !(f.name == "runtime.NumGoroutine") | none => Zf) = true := by kernel_rfl
@[go_sem] theorem fr2(h:236<=k)(h2:k<285):wk prog k:=zt (by
 have:=VZ.1 fb2 k (W3.2 h2);rw[Yt YA]at this
 exact this)
theorem fb3 : (Wj 328).all (λk => Zg (k < 292) || match prog.funcs[k]? with | some f => f.body.isSome && !(f.name == "runtime.NumGoroutine") | none => Zf) = true := by kernel_rfl
@[go_sem] theorem fr3(h:292<=k)(h2:k<328):wk prog k:=zt (by
 have:=VZ.1 fb3 k (W3.2 h2);rw[Yt YA]at this
 exact this)
theorem fb4 : (Wj 370).all (λk => Zg (k < 340) || match prog.funcs[k]? with | some f => f.body.isSome && !(f.name == "runtime.NumGoroutine") | none => Zf) = true := by kernel_rfl
@[go_sem] theorem fr4(h:340<=k)(h2:k<370):wk prog k:=zt (by
 have:=VZ.1 fb4 k (W3.2 h2);rw[Yt YA]at this
 exact this)
theorem fb5 : (Wj 395).all (λk => Zg (k < 371) || match prog.funcs[k]? with | some f => f.body.isSome && !(f.name == "runtime.NumGoroutine") | none => Zf) = true := by kernel_rfl
@[go_sem] theorem fr5(h:371<=k)(h2:k<395):wk prog k:=zt (by
 have:=VZ.1 fb5 k (W3.2 h2);rw[Yt YA]at this
 exact this)
/-! Zjl the Vw Zom not go Zoj. -/
@[congr] theorem Zls{P:Program}{K:C PV->V->Prop}{t:C PV}{t':C PV}{m:V}{m':V}(LK:t=t')(BF:m=m'):vK P ops K rest t m=vK P ops K rest t' m':=by simp_all
@[congr] theorem ZjC{P:Program}{t:C PV}{t':C PV}{m:V}{m':V}(LK:t=t')(BF:m=m')(h_g:g=g'):nP P wd base fl ops KD i rest g t m=nP P wd base fl ops KD i rest g' t' m':=by simp_all
@[congr] theorem ZlP{P:Program}{K:C PV->V->Prop}{t:C PV}{t':C PV}{m:V}{m':V}(LK:t=t')(h_p:p=p')(BF:m=m'):nxt P ops K rest t d p m=nxt P ops K rest t' d p' m':=by simp_all
@[congr] theorem ZlN{P:Program}{t:C PV}{t':C PV}{m:V}{m':V}(LK:t=t')(h_p:p=p')(BF:m=m')(h_g:g=g'):nxd P wd base fl ops KD i rest g t d p m=nxd P wd base fl ops KD i rest g' t' d p' m':=by simp_all
@[congr] theorem ZlX{P:Program}{K:C PV->V->Prop}{m:V}{m':V}{t:C PV}{t':C PV}(BF:m=m')(LK:t=t'):rgo P ops K rest d o m t=rgo P ops K rest d o m' t':=by simp_all
@[congr] theorem ZlT{P:Program}{K:C PV->V->Prop}{m:V}{m':V}{t:C PV}{t':C PV}(BF:m=m')(LK:t=t'):pgo P ops K rest d m t=pgo P ops K rest d m' t':=by simp_all
@[congr] theorem ZlW{P:Program}{m:V}{m':V}{t:C PV}{t':C PV}(BF:m=m')(LK:t=t'):rge P wd base fl ops KD i rest g oo m t=rge P wd base fl ops KD i rest g oo m' t':=by simp_all
@[congr] theorem ZlO{P:Program}{t t':C PV}{ρ:C Nat}{m m':V}(LK:t=t')(h_p:p=p')(BF:m=m')(h_n:ν=ν'):nxe P wd base fl ops KD i rest g oo ν t ρ p m=nxe P wd base fl ops KD i rest g oo ν' t' ρ p' m':=by simp_all
@[congr] theorem Zlr{P:Program}{t t':C PV}{m m':V}{K:C Nat->PV->V->Prop}(h_n:ν=ν')(LK:t=t')(BF:m=m'):Ra P wd ν o t m K=Ra P wd ν' o t' m' K:=by simp_all
@[congr] theorem ZlQ{P:Program}{f:FuncId}{m m':V}{K:C Nat->PV->V->Prop}(h_n:ν=ν')(h_p:ps=Oz)(BF:m=m'):pIO P wd ν f ps m K=pIO P wd ν' f Oz m' K:=by simp_all
@[congr] theorem ZlV{P:Program}{m:V}{m':V}{t:C PV}{t':C PV}(BF:m=m')(LK:t=t'):rgd P wd base fl ops KD i rest g oo m t=rgd P wd base fl ops KD i rest g oo m' t':=by simp_all
@[congr] theorem ZlS{P:Program}{m:V}{m':V}{t:C PV}{t':C PV}(BF:m=m')(LK:t=t'):pgd P wd base fl ops KD i rest g oo m t=pgd P wd base fl ops KD i rest g oo m' t':=by simp_all
@[congr] theorem Zjx{b':Bool}{t:C PV}{t':C PV}(h_b:b=b')(LK:t=t'):wM b y n t i=wM b' y n t' i:=by simp_all
@[congr] theorem ZlM{t:C PV}{t':C PV}(h_p:p=p')(LK:t=t'):gdV p i t b y n=gdV p' i t' b y n:=by simp_all
@[congr] theorem Zns{t:C PV}{t':C PV}(LK:t=t'):gd d t b y n=gd d t' b y n:=by simp_all
@[congr] theorem Zjz{P:Program}{cs:L (C PV)}{rW:L (C PV)}{K:PV->Prop}(Zmc:cs=rW):uw P T cs K=uw P T rW K:=by simp_all
@[congr] theorem Zlk{P:Program}{y:PV}{K:PV->Prop}(Si:x=x')(h_y:y=y'):Oa P op T x y K=Oa P op T x' y' K:=by simp_all
@[congr] theorem ZlR{op:UnOp}{K:PV->Prop}(Si:x=x'):pUn op x K=pUn op x' K:=by simp_all
@[congr] theorem ZiZ{P:Program}{m:V}{m':V}{U:TypeId}{K:PV->Prop}(BF:m=m')(Si:x=x'):uh P m T U x K=uh P m' T U x' K:=by simp_all
@[congr] theorem Zi2{P:Program}{m:V}{m':V}{lo':L PV}{od:L PV}{K:PV->Prop}(BF:m=m')(Si:x=x')(ZnZ:lo=lo')(ZnY:hi=od):mw P m T x lo hi K=mw P m' T x' lo' od K:=by simp_all
@[congr] theorem ZdL{P:Program}{m:V}{m':V}{K:PV->Prop}(BF:m=m')(Si:x=x'):mv P m T x i K=mv P m' T x' i K:=by simp_all
@[congr] theorem Zi0{P:Program}{K:PV->Prop}(Si:x=x'):yN P T x i K=yN P T x' i K:=by simp_all
@[congr] theorem ZdM{P:Program}{m:V}{m':V}{y:PV}{K:PV->Prop}(BF:m=m')(Si:x=x')(h_y:y=y'):dh P m T x y K=dh P m' T x' y' K:=by simp_all
@[congr] theorem Zi1{P:Program}{y:PV}{K:PV->Prop}(Si:x=x')(h_y:y=y'):vv P T x y K=vv P T x' y' K:=by simp_all
@[congr] theorem Zln{K:PV->Prop}(Si:x=x'):Od i x K=Od i x' K:=by simp_all
@[congr] theorem ZiY{P:Program}{ps:C (Nat×PV)}{Oz:C (Nat×PV)}{K:PV->Prop}(ZeG:ps=Oz):yM P T ps K=yM P T Oz K:=by simp_all
@[congr] theorem Zlo{P:Program}{m:V}{m':V}{K:PV->Prop}(BF:m=m')(Si:x=x'):zR P m T x K=zR P m' T x' K:=by simp_all
@[congr] theorem Zhr{K:PV->Prop}(ZeG:ps=Oz):sU b ps K=sU b Oz K:=by simp_all
@[congr] theorem Zlj{ov:L Value}{ov':L Value}{K:PV->Prop}(Zn0:ov=ov'):KH ov K=KH ov' K:=by simp_all
@[congr] theorem ZlL{P:Program}{rW:C PV}{ds':C PV}{K:PV->Prop}(Zmc:cs=rW)(ZnX:ds=ds'):ya P op T cs ds K=ya P op T rW ds' K:=by simp_all
@[congr] theorem Zlp{m:V}{m':V}{K:PV->Prop}(BF:m=m')(Si:x=x'):Ii m x K=Ii m' x' K:=by simp_all
@[congr] theorem ZjB{y:PV}{z:PV}{z':PV}{K:PV->Prop}(Si:x=x')(h_y:y=y')(h_z:z=z'):Ja x y z K=Ja x' y' z' K:=by simp_all
@[congr] theorem Zjy{P:Program}{f:FuncId}{m:V}{m':V}{KA:PV->V->Prop}(ZeG:ps=Oz)(BF:m=m')(Um:nu=I7):rN P io wd nu f ps m KA=rN P io wd I7 f Oz m' KA:=by simp_all
@[congr] theorem Zll{m:V}{m':V}{ocs:L (C PV)}{ZkN:L (C PV)}{KA:PV->V->Prop}(Um:nu=I7)(BF:m=m')(Znv:ocs=ZkN):Ds nu m T ocs KA=Ds I7 m' T ZkN KA:=by simp_all
@[congr] theorem ZaR{P:Program}{m:V}{m':V}{ps:C (Nat×PV)}{Oz:C (Nat×PV)}{KA:PV->V->Prop}(Um:nu=I7)(BF:m=m')(ZeG:ps=Oz):o4 P nu m T k ps KA=o4 P I7 m' T k Oz KA:=by simp_all
@[congr] theorem ZjA{P:Program}{m:V}{m':V}{y:PV}{KA:PV->V->Prop}(Um:nu=I7)(BF:m=m')(Si:x=x')(h_y:y=y'):yO P nu m T x y KA=yO P I7 m' T x' y' KA:=by simp_all
@[congr] theorem Zi3{P:Program}{m:V}{m':V}{y:PV}{KA:PV->V->Prop}(BF:m=m')(Si:x=x')(h_y:y=y'):yP P m T x y KA=yP P m' T x' y' KA:=by simp_all
@[congr] theorem Zhq{P:Program}{m:V}{m':V}{y:PV}{KA:PV->V->Prop}(Um:nu=I7)(BF:m=m')(Si:x=x')(h_y:y=y'):ix P nu m T x y KA=ix P I7 m' T x' y' KA:=by simp_all
@[congr] theorem Zlm{P:Program}{m:V}{m':V}{KA:PV->V->Prop}(Um:nu=I7)(h_p:p=p')(ZeG:ps=Oz)(BF:m=m'):Zfu P io wd nu p ps m KA=Zfu P io wd I7 p' Oz m' KA:=by simp_all
@[congr] theorem Zlq{P:Program}{t:C PV}{t':C PV}{m:V}{m':V}{KA:PV->V->Prop}(Um:nu=I7)(LK:t=t')(BF:m=m'):kb P io wd nu o t m KA=kb P io wd I7 o t' m' KA:=by simp_all
@[congr] theorem Zli{ZkP:C Oper}{K:C PV->V->Prop}{t:C PV}{t':C PV}{m:V}{m':V}(LK:t=t')(BF:m=m'):Ue ZkP K g t m=Ue ZkP K g t' m':=by simp_all
@[congr] theorem ZlU{P:Program}{n0:Nat}{code:Code}{Q:Exit->C PV->V->Prop}{t:C PV}{t':C PV}{m:V}{m':V}(LK:t=t')(BF:m=m'):s7 P n0 code Q t m=s7 P n0 code Q t' m':=by simp_all
@[congr] theorem ZjD{K:C PV->V->Prop}{Q:Exit->C PV->V->Prop}{e:Exit}{t:C PV}{t':C PV}{m:V}{m':V}(LK:t=t')(BF:m=m')(h_e:e=e'):ub K Q e t m=ub K Q e' t' m':=by simp_all
@[congr] theorem ZiX{id:Nat}{Q:Exit->C PV->V->Prop}{e:Exit}{t:C PV}{t':C PV}{m:V}{m':V}(LK:t=t')(BF:m=m')(h_e:e=e'):ym id Q e t m=ym id Q e' t' m':=by simp_all
class eo(α:Type) where
 c:α->C PV
instance :eo Int:=⟨aW⟩
instance :eo ByteArray:=⟨jQ⟩
instance :eo Bool:=⟨FM⟩
section
variable {P:Program} {n0:Nat} {Q:Exit->C PV->V->Prop} {t t':C PV} {m m':V} {K:C PV->V->Prop} {KR:PV->Prop} {KA:PV->V->Prop}
theorem ZlC{σ ο β:Type}{s:σ}{F:σ->L β}{K:ο->L β}{r:β}(h:(W (Sum.inl s)).bind (bj F K)=W r):F s=W r:=h
theorem Zjq{σ ο β:Type}{o:ο}{F:σ->L β}{K:ο->L β}:(W (Sum.inr o)).bind (bj F K)=K o:=fe rfl
theorem bsr{α β γ δ:Type}{o:β}{F:α->L γ}{G:β->L γ}{K:γ->L δ}:(bj F G (Sum.inr o)).bind K=(G o).bind K:=fe rfl
theorem bsl{α β γ δ:Type}{o:α}{F:α->L γ}{G:β->L γ}{K:γ->L δ}:(bj F G (Sum.inl o)).bind K=(F o).bind K:=fe rfl
theorem Zjb{G:Prop}{K:α->L β}{r:β}(h:(cond b A B).bind K=W r)(hb:b=Ze)(k:A.bind K=W r->G):G:=k (Hc1 h hb)
theorem Zjc{G:Prop}{K:α->L β}{r:β}(h:(cond b A B).bind K=W r)(hb:b=Zf)(k:B.bind K=W r->G):G:=k (Hc2 h hb)
theorem ZjP{c:Bool}(h:wM c y n t i):wM c y n t i:=h
theorem ZmO{i:PV}(h:dh P m T (.sl es) i KR):dh P m T (.sl es) i KR:=h
def ZmV(n bytes:Int):Bool:=Zg (0<=n/\n<=1099511627776/\bytes*n<=140737488355328)
theorem mkS{x y:PV}(h:yO P ν m T x y KA):yO P ν m T x y KA:=h
theorem Zin{T e k ν:Nat}{n b:Int}(hok:ZmV n b=Ze)(hu:P.underlying T=W (.slice e))(hz:pz P e=W zc)(hb:(P.bytesOf e:Int)=b)(hc:P.cellsOf e=k)(CD:Zm zc=k)(hp:Zg (0<k)=Ze)(hK:KA (.ms ν) (qN m ν ⟨e,k,V9 n.toNat zc⟩)):yO P ν m T (vi n) (vi n) KA:=by
 subst hb hc;have wO:=Yu hok;simp only[yO,hu,hz]
 simp_all
theorem zp{ρ:Nat->L Nat}:∀{cs:C PV},(∀q∈cs,uQ q=Ze)->tQ ρ m m' cs cs
 | [],_=>trivial
 |c::cs,h=>⟨.c c (h c Wo),zp λq hq=>h q (Wl _ hq)⟩
theorem ME{α:Type}{f:α->C PV}[hf:eE f]{ρ:Nat->L Nat}:∀{xs:C α},Bv ρ m m' (xs.map f) (xs.map f)
 | []=>trivial
 |x::xs=>⟨zp (hf.h x),ME⟩
theorem wG{α:Type}{f:α->C PV}[hf:eE f]{ρ:Nat->L Nat}{cs:C PV}{x:α}(h:tQ ρ m m' cs (f x)):∀{xs:C α} {n:Nat},Bv ρ m m' ((xs.map f).set n cs) ((xs.set n x).map f)
 | [],_=>trivial
 |y::ys,0=>⟨h,ME⟩
 |y::ys,n+1=>⟨zp (hf.h y),wG h⟩
theorem FZ{α:Type}{f:α->C PV}{ρ:Nat->L Nat}{cs:C PV}{x:α}(h:tQ ρ m m' cs (f x)):∀{n:Nat},Bv ρ m m' (V9 n cs) ((V9 n x).map f)
 |0=>trivial
 |n+1=>⟨h,FZ h⟩
theorem zo{α:Type}{f:α->C PV}[hf:eE f]{ρ:Nat->L Nat}{cs:C PV}{x:α}(h:tQ ρ m m' cs (f x)):∀{xs:C α},Bv ρ m m' (xs.map f++[cs]) ((xs++[x]).map f)
 | []=>⟨h,trivial⟩
 |y::ys=>⟨zp (hf.h y),zo h⟩
theorem MA[eE f]{T k n:Nat}{x:α}{xs:C α}(h:tQ ρ m m' cs (f x)):yq ρ m m' ⟨T,k,(xs.map f).set n cs⟩ ⟨T,k,(xs.set n x).map f⟩:=⟨⟨rfl,rfl,.inr (wG h)⟩,λ_ _=>F0 rfl⟩
theorem Za0{T k n:Nat}{x:α}(h:tQ ρ m m' cs (f x)):yq ρ m m' ⟨T,k,V9 n cs⟩ ⟨T,k,(V9 n x).map f⟩:=⟨⟨rfl,rfl,.inr (FZ h)⟩,λ_ _=>F0 rfl⟩
theorem Zhv{T k:Nat}(h:Bv ρ m m' es wz):yq ρ m m' ⟨T,k,es⟩ ⟨T,k,wz⟩:=⟨⟨rfl,rfl,.inr h⟩,λ_ _=>F0 rfl⟩
theorem Zhx:Bv ρ m m' [] []:=trivial
theorem Zhw(h:tQ ρ m m' cs ds)(h':Bv ρ m m' es wz):Bv ρ m m' (cs::es) (ds::wz):=⟨h,h'⟩
theorem ZaY{T:TK}:yq ρ m m' ⟨T,k,[]⟩ ⟨T,k,[]⟩:=⟨⟨rfl,rfl,.inr trivial⟩,λ_ _=>ID⟩
theorem Za1{T k:Nat}{a b c d:C PV}(h:Bv ρ m m' (a::b::es) (c::d::wz)):yq ρ m m' ⟨T,k,a::b::es⟩ ⟨T,k,c::d::wz⟩:=Zhv h
theorem T7[eE f]{T k:Nat}{x:α}{xs:C α}(h:tQ ρ m m' cs (f x)):yq ρ m m' ⟨T,k,xs.map f++[cs]⟩ ⟨T,k,(xs++[x]).map f⟩:=⟨⟨rfl,rfl,.inr (zo h)⟩,λ_ _=>F0 rfl⟩
/-! Keyed rows. -/
def Kz:Nat->C PV->L (Nat×Nat)
 |_,[]=>Y
 |j,.ms l::cs=>if cs.all KC=Ze then W (l,j)else Y
 |_,.ss ..::_=>Y
 |j,_::cs=>Kz (j+1) cs
theorem Zcn{o l j:Nat}(h:Kz o cs=W (l,j)):∃j0,j=o+j0/\cs[j0]?=W (.ms l)/\∀(i:Nat) (p:PV),cs[i]?=W p->i=j0\/KC p=true:=by
 induction cs generalizing o with
 |nil=>cases h
 |cons p cs ih=>
  cases p with
  |ms k=>
   simp only[Kz]at h
   split at h
   ·rename_i hc
    simp only[V8,Prod.mk.injEq]at h
    obtain⟨rfl,rfl⟩:=h
    grind
   grind
  |ss a b c=>simp[Kz]at h
  |_=>
   have h':Kz (o+1) cs=W (l,j):=h;obtain⟨j0,e,h1,h2⟩:=ih h';refine⟨j0+1,YA,by simpa using h1,λi q hq=>?_⟩
   cases i with
   |zero=>
    right;simp only[List.getElem?_cons_zero,V8]at hq
    subst hq;rfl
   |succ i=>
    rcases h2 i q (by simpa using hq)with h|h
    ·left;omega
    ·exact .inr h
theorem KE(h:uQ p=Ze):KC p=true:=by
 cases p with
 |ms=>cases h
 |ss=>cases h
 |_=>rfl
def Ny(mb:MB):Prop:=mb.T.kd.isSome=Ze/\∃cs∈mb.es,∃p∈cs,KC p=Zf
def kd0(m:V):Prop:=∀(l:Nat) (mb:MB),m[l]?=W (W mb)->¬Ny mb
def kd1(m:V):Prop:=∀(l l':Nat) (mb pH:MB),m[l]?=W (W mb)->m[l']?=W (W pH)->Ny mb->Ny pH->l=l'
theorem ZeX:kd0 []:=λ_ _ h=>by simp at h
theorem ZeY:kd1 []:=λ_ _ _ _ h=>by simp at h
theorem Zb7{x:L MB}{m:V}(hx:∀mb,x=W mb->¬Ny mb)(h:kd0 m):kd0 (x::m):=λl mb hl=>by
 cases l with
 |zero=>simp_all
 |succ l=>exact h l mb YG
theorem Zkx{x:L MB}{m:V}(h:kd0 m):kd1 (x::m):=λl l' mb pH h1 h2 a1 a2=>by
 cases l with
 |zero=>
  cases l' with
  |zero=>rfl
  |succ l'=>exact Zq a2 (h l' pH YG)
 |succ l=>exact Zq a1 (h l mb YG)
theorem Zb8{x:L MB}{m:V}(hx:∀mb,x=W mb->¬Ny mb)(h:kd1 m):kd1 (x::m):=λl l' mb pH h1 h2 a1 a2=>by
 cases l with
 |zero=>simp_all
 |succ l=>
  cases l' with
  |zero=>simp_all
  |succ l'=>exact congrArg Nat.succ (h l l' mb pH YG YG a1 a2)
theorem RU:∀mb,(Y:L MB)=W mb->¬Ny mb:=λ_ h=>by cases h
theorem ZgH{t:TypeId}:∀mb,W (⟨TK.of t,k,es⟩:MB)=W mb->¬Ny mb:=λmb h a=>by
 cases h
 exact Zq a.1 YE
theorem Zax[hf:eE f]{T:TK}{xs:C α}:∀mb,W (⟨T,k,xs.map f⟩:MB)=W mb->¬Ny mb:=λmb h ⟨_,cs,tv,p,hp,hn⟩=>by
 cases h
 obtain⟨x,_,rfl⟩:=WH.1 tv;rw[KE (hf.h x p hp)]at hn
 grind
theorem k1{p:Prop}(h:p:=by(repeat(first|exact ZeX|exact ZeY|(with_reducible refine Zb8 RU ?_) |(refine Zb8 ZgH ?_) |(refine Zb8 Zax ?_) |(with_reducible refine Zb7 RU ?_) |(refine Zb7 ZgH ?_) |(refine Zb7 Zax ?_) |(refine Zkx ?_)));(first|done|fail)):p:=h
theorem R5{t t':TypeId}{n l j:Nat}(h:Bv ρ m m' es wz)(hn:es[n]?=W cs)(ho:∀(i:Nat) (ds:C PV),es[i]?=W ds->i≠n->∀p∈ds,KC p=Ze)
 (hm:Kz 0 cs=W (l,j)) (h1:kd1 m) {k2:Nat} (hl:Zp m l=W ⟨T2,k2,es2⟩) (ht:T2.t=t') {k0:Nat} (BG:m[k0]?=W (W ⟨⟨t,W t'⟩,k,es⟩)):Ua ρ m m' ⟨⟨t,W t'⟩,k,es⟩ ⟨⟨t,W t'⟩,k',wz⟩:=by
 obtain⟨j0,ej,g1,g2⟩:=Zcn hm;rw[Wa]at ej
 subst ej;intro T1 hT i ds j1 e hi hj gL;have hT':W t'=W T1:=hT;obtain⟨cs1,c1,c2⟩:=(u6 h).2 i ds hi;obtain⟨p,p1,p2⟩:=(wH c2).2 j1 _ hj
 by_cases hms:KC p=Ze
 ·have:=R4 p2 hms gL
  simp_all
 ·right
  have xg:i=n:=by
   rcases Nat.decEq i n with h|h
   ·exact Zq (ho i cs1 c1 h p (VU p1)) hms
   omega
  subst xg;rw[hn]at c1
  obtain rfl:=VV c1;have hj1:j1=j:=by
   grind
  subst hj1;rw[g1]at p1
  obtain rfl:=VV p1;have ZmD:∀q',Zhc m l q'->q'=(t,i,j1):=by
   rintro q' ⟨l',pH,T',i',rW,j',a1,a2,a3,a4,rfl⟩;have e:l'=k0:=h1 l' k0 pH _ a1 BG ⟨by grind,_,VU a3,_,VU a4,rfl⟩ ⟨rfl,_,VU hn,_,VU g1,rfl⟩
   subst e;rw[BG]at a1
   obtain rfl:(⟨⟨t,W t'⟩,k,es⟩:MB)=pH:=by simp_all
   have od:i'=i:=by
    rcases Nat.decEq i' i with h|h
    ·have:=ho i' rW a3 h _ (VU a4);grind
    omega
   grind
  generalize hq:PV.sl e=q at p2
  cases p2 with
  |fms _ mk CB hc hd=>
   have:=kj.1 hl;rw[CB]at this
   obtain rfl:mk=⟨T2,k2,es2⟩:=by simp_all
   refine⟨_,l,_,hn,g1,⟨⟨k0,_,t',i,_,j1,BG,rfl,hn,g1,rfl⟩,ZmD⟩,CB,?_,?_,hd⟩
   all_goals simp_all
  |un=>grind
  |c _ h=>cases h
  |ms=>grind
theorem P1[hf:eE f]{t t':TypeId}{k l j k2:Nat}{x:α}{xs:C α}(hm:Kz 0 cs=W (l,j))(h1:kd1 m)(hl:Zp m l=W ⟨T2,k2,es2⟩)(ht:T2.t=t')(h:tQ ρ m m' cs (f x)):
 yq ρ m m' ⟨⟨t,W t'⟩,k,xs.map f++[cs]⟩ ⟨⟨t,W t'⟩,k,(xs++[x]).map f⟩:=by
 refine⟨⟨rfl,rfl,.inr (zo h)⟩,λk0 BG=>R5 (n:=Zm xs) (cs:=cs) (zo h) YE (λi ds hi gL p hp=>?_) hm h1 hl ht BG⟩
 rcases Wu i (Zm xs) with bD|Cz
 ·rw[Wz YG,Wp]at hi
  obtain⟨y,_,rfl⟩:=Option.map_eq_some_iff.1 hi;exact KE (hf.h y p hp)
 grind
theorem IC[hf:eE f]{t t':TypeId}{k l j k2 n:Nat}{x:α}{xs:C α}(hn:n<Zm xs)(hm:Kz 0 cs=W (l,j))(h1:kd1 m)(hl:Zp m l=W ⟨T2,k2,es2⟩)(ht:T2.t=t')(h:tQ ρ m m' cs (f x)):
 yq ρ m m' ⟨⟨t,W t'⟩,k,(xs.map f).set n cs⟩ ⟨⟨t,W t'⟩,k,(xs.set n x).map f⟩:=by
 refine⟨⟨rfl,rfl,.inr (wG h)⟩,λk0 BG=>R5 (n:=n) (cs:=cs) (wG h) (List.getElem?_set_self YG) (λi ds hi gL p hp=>?_) hm h1 hl ht BG⟩
 rw[List.getElem?_set_ne (Ne.symm gL),Wp]at hi
 obtain⟨y,_,rfl⟩:=Option.map_eq_some_iff.1 hi;exact KE (hf.h y p hp)
theorem T6[hf:eE f]{T:TK}{k n:Nat}{x:α}{xs:C α}(hn:cs.all KC=Ze)(h:tQ ρ m m' cs (f x)):yq ρ m m' ⟨T,k,(xs.map f).set n cs⟩ ⟨T,k,(xs.set n x).map f⟩:=by
 refine⟨⟨rfl,rfl,.inr (wG h)⟩,λ_ _=>Zhy (wG h) λds hds p hp=>?_⟩
 rcases List.mem_or_eq_of_mem_set hds with hds|rfl
 ·obtain⟨y,_,rfl⟩:=WH.1 hds
  exact KE (hf.h y p hp)
 simp_all
theorem ZmN{i:PV}(h:dh P m T (.ms l) i KR):dh P m T (.ms l) i KR:=h
theorem ZeP[eo α]{xs:C α}{x:α}{T':TK}{i:Int}{k:IntKind}(h:az xs i=W x)(hm:Zp m l=W ⟨T',k',xs.map eo.c⟩)(hp:0<lK P T)(hk:k'=lK P T)(hK:KR (.be l i.toNat 0)):dh P m T (.ms l) (.v (.int k i)) KR:=Zic h hm hp hk hK
theorem Da{xs:C α}{x:α}{i:Int}(h:az xs i=W x):(xs.map f)[i.toNat]?=W (f x):=by
 rw[Wp,(ky h).2];rfl
theorem VL[eo α]{xs:C α}{l h:Int}(hok:iq l h (Zm xs)=Ze)(hm:Zp m r=W ⟨T',k,xs.map eo.c⟩)(hlo:KN lo 0=W l)(hhi:KN hi (Zm xs)=W h)(hp:0<lK P T)(hk:k=lK P T)(hK:KR (.ss r l.toNat h.toNat)):mw P m T (.ms r) lo hi KR:=by
 obtain⟨e,hu,he⟩:=wJ hp;rw[he]at hp hk
 have wO:=Yu hok;simp only[mw,hu,oC,hm,Wi,hlo,hhi]
 simp_all
theorem ZiO[eo α]{xs:C α}{a b:Int}(hm:Zp m r=W ⟨T',k,xs.map eo.c⟩):rR m (.ss r a.toNat b.toNat)=W ((da xs a b).map eo.c):=by
 have h:=kj.1 hm;simp only[rR,h,BA,Cu,da]
theorem Zgk[eo α]{xs:C α}{r k A B:Nat}{a b:Int}(hm:Zp m r=W ⟨T',k,xs.map eo.c⟩)(hA:A=a.toNat)(hB:B=b.toNat):rR m (.ss r A B)=W ((da xs a b).map eo.c):=by subst hA hB;exact ZiO hm
theorem ZjN(h:cs.all uQ=Ze):s9 Zf (.ag cs):=λc hc=>wN (VZ.1 h c hc)
theorem ZhL(h:cs.all Nz=Ze):s9 Ze (.ag cs):=λc hc=>Gb (VZ.1 h c hc)
theorem ZjO(h:ps.all Uy=Ze):s9 Zf (.tu ps):=λc hc=>(BO (σ:=id) (VZ.1 h c hc)).2.1
theorem ZmM{s:ByteArray}{i:PV}(h:vv P T (.v (.string s)) i KR):vv P T (.v (.string s)) i KR:=h
theorem Zng(h:mw P m T x lo hi KR):mw P m T x lo hi KR:=h
theorem ZlF{x y:PV}(h:ix P ν m T x y KA):ix P ν m T x y KA:=h
theorem Zju{f:FuncId}(h:rN P io wd ν f ps m KA):rN P io wd ν f ps m KA:=h
theorem Zm0{o:L Value}(h:KH o KR):KH o KR:=h
theorem ZkD{c:Code}(h:s7 P n0 (.loop c) Q t m):s7 P n0 (.loop c) Q t m:=h
theorem Zl1(h:tN n0 t m t' m'):tN n0 t m t' m':=h
theorem all_nil{p:α->Prop}:(∀x∈([]:C α),p x)=True:=by simp
theorem all_cons{p:α->Prop}{a:α}{as_:C α}:(∀x∈a::as_,p x)=(p a/\∀x∈as_,p x):=by simp
theorem ZiE:PG m (.rp cs)=W cs:=fe rfl
theorem Zd1[eo α]{xs ys:C α}{ν l e k n b:Nat}(hok:bn (Zm xs+Zm ys) b=Ze)(hu:P.underlying T=W (.slice e))(hz:pz P e=W zc)(hb:P.bytesOf e=b)(hc:P.cellsOf e=n)(hl:Zp m l=W ⟨e,k,xs.map eo.c⟩)(Ay:rR m x=W (ys.map eo.c))
 (CD:Zm zc=n) (hp:Zg (0<n)=Ze) (hf:∀x:α,Zm (eo.c x)=n) (hk:k=n) (hK:KA (.ms ν) (qN (m.set l Y) ν ⟨e,k,(xs++ys).map eo.c⟩)):ix P ν m T (.ms l) x KA:=by
 subst hb hc;exact Zhl hok hu hz Ay hl CD (Yu hp) hf hk hK
theorem Zd0[eo α]{xs ys:C α}{ν l e k n b t':Nat}(hok:bn (Zm xs+Zm ys) b=Ze)(hy:Zm ys=1)(hu:P.underlying T=W (.slice e))(hz:pz P e=W zc)(hb:P.bytesOf e=b)(hc:P.cellsOf e=n)(hl:Zp m l=W ⟨⟨e,W t'⟩,k,xs.map eo.c⟩)(Ay:rR m x=W [cs])
 (tV:cs.all UT=Ze) (vD:Zm cs=n) (CD:Zm zc=n) (hp:Zg (0<n)=Ze) (hk:k=n) (hK:KA (.ms ν) (qN (m.set l Y) ν ⟨⟨e,W t'⟩,k,xs.map eo.c++[cs]⟩)):ix P ν m T (.ms l) x KA:=by
 subst hk;subst hb;have wO:=Yu hok;rw[hy]at wO
 simp only[ix,hu,hz,Ay,oC,hl,Wi,V0,V2,hc];refine⟨CD,Yu hp,λds hds=>?_,trivial,trivial,wO.1,wO.2,?_⟩
 ·simp_all
 ·have e:(⟨e,W t'⟩:TK).sts [cs]=⟨e,W t'⟩:=by
   unfold TK.sts TK.stb
   simp_all
  simp_all
theorem Zd3[eo α]{ys:C α}{ν e n b:Nat}(hok:bn (Zm ys) b=Ze)(hu:P.underlying T=W (.slice e))(hz:pz P e=W zc)(hb:P.bytesOf e=b)(hc:P.cellsOf e=n)(Ay:rR m x=W (ys.map eo.c))
 (CD:Zm zc=n) (hp:Zg (0<n)=Ze) (hf:∀x:α,Zm (eo.c x)=n) (hK:KA (.ms ν) (qN m ν ⟨e,n,ys.map eo.c⟩)):ix P ν m T (.v (.slice Y 0 0)) x KA:=by
 subst hb hc;exact Zhm hok hu hz Ay CD (Yu hp) hf hK
theorem ZbK:∀mb,W mb∈([]:V)->∀cs∈mb.es,∀p∈cs,fC b p:=by simp
theorem Kk[eE f]{T:TK}{xs:C α}:∀mb,W mb∈([W ⟨T,k,xs.map f⟩]:V)->∀cs∈mb.es,∀p∈cs,fC Zf p:=by
 intro mb h;simp only[Wh,V8]at h
 subst h;exact of_eq_true Uk
theorem E0[s8 f]{T:TK}{xs:C α}:∀mb,W mb∈([W ⟨T,k,xs.map f⟩]:V)->∀cs∈mb.es,∀p∈cs,fC Ze p:=by
 intro mb h;simp only[Wh,V8]at h
 subst h;exact of_eq_true Ul
theorem Uq{x:L MB}{m:V}(h1:∀mb,W mb∈([x]:V)->∀cs∈mb.es,∀p∈cs,fC b p)(h2:∀mb,W mb∈m->∀cs∈mb.es,∀p∈cs,fC b p):∀mb,W mb∈(x::m)->∀cs∈mb.es,∀p∈cs,fC b p:=by
 grind
end
theorem Zk6{n:Nat}{qs:C PV}:(TK.of n).st qs=TK.of n:=fe rfl
theorem Zk5{t t':TypeId}{x:Value}:(TK.mk t (W t')).st [.v x]=TK.mk t (W t'):=fe rfl
theorem ZiQ{n:Nat}:(TK.of n).sts es=TK.of n:=fe rfl
attribute [go_sem] Zk6 Zk5 ZiQ U_z U_s ZiE Zk3 Zk2 Zbu Zbt ZkS ZkR ZkQ SF RY ZfW ZfI Zbs Zbr ZcM ZfK ZfJ SD Ve ZcL ZcK ZfU ZfV SE ZbZ Ux Vd ZfH ZeB ZeA ZhP ZhO ZhQ Vj Vi Se Zeu MU Zew ZhF Zev Zbl Va Ow Zfx Zfw Vb U9 Il Q3 Vc K5 Q8 GS Q5 GU Q6 K6 Q4 Ik ZcG ZcI ZcH Q2 ZcE EF GV Q9 Ov U8 ZcF UZ ZiD Zcg Zcf Ziq Zio Zfd Zfe Zis Zir ZiN ZiL ZiM ZiC ZiB Zg7 Zg9 Zg8 Jk Vs Rh OM IZ BA Cu Oa Zd8 pUn mv yN Od zR sU uw HY Ds pc yP Ii uK tF Hz JE DR FG Option.bind_some Wi if_true if_false Bool.false_eq_true WM List.map_nil List.toList_toArray beq_self_eq_true ite_self Int.toNat_natCast true_and and_true V2 List.nil_append List.append_nil Wa List.drop_zero List.drop_succ_cons List.take_zero Xt V0 Xa Option.map_some List.replicate_zero Bool.not_true Bool.not_false Ch Cg uH x9 kN o5 Ja GK uh KN Option.map_none yM zX o4 chunk Am all_cons all_nil Nat.zero_lt_succ Nat.lt_add_one and_self
