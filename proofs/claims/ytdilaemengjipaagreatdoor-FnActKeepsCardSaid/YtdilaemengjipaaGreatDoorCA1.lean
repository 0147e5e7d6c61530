/- A part of the proof of the statement in the last file of this claim: texts on the language of the program and on its functions. No condition. -/
import Derived.WalkKit
import Derived.WalkSpells
import Derived.WalkLawsBesides
import Derived.Below
import Derived.Lib.Hide
import Derived.Outline
import Derived.Laws.OwnMore
import Derived.Maps.AppendAt
import Derived.Deep.Draws
import Derived.Deep.QuietTactic
import Derived.BigQuiet
import Derived.Lib.LaidTab
import Derived.Lib.ItoaNum
import Derived.Test.YtdilaemengjipaaGreatDoorProg
import Derived.Laws.StructEq
import Derived.Deep.DeepCutAuto
import Derived.StillTailTactics
import Derived.Laws.AppendOwnNone
set_option linter.unusedVariables false
set_option linter.unusedSimpArgs false
set_option linter.unusedSectionVars false
open Go.Value renaming int->YM
open Go.IntKind renaming i64->YN
open Go renaming undef->YO
open Option renaming some->YH,none->YI
open Bool renaming true->YJ,false->YK
open Decidable renaming decide->YL
open Go.Proofs.Tryz
namespace Go.Proofs.YtdilaemengjipaaGreatDoor
universe u
abbrev X1:=@decide_eq_true
abbrev X2:=@decide_eq_false
abbrev X3:=@of_decide_eq_true
abbrev X4:=@of_decide_eq_false
theorem X5{α:Type u}(a b:α):cond true a b=a:=rfl
theorem X6{α:Type u}(a b:α):cond false a b=b:=rfl
theorem X7{p:Prop}[Decidable p]:decide p=true↔p:=decide_eq_true_iff
theorem X8{p:Prop}{_:Decidable p}:decide p=false↔¬p:=decide_eq_false_iff_not
theorem X9{p:Prop}(h:p:=by omega):p:=h
theorem Ya{p:Prop}(h:p:=by (repeat(first|exact Up.rfl' _|(refine Up.al _ ?_) |(refine Up.dr _ ?_) |(refine Up.uO ?_) |(refine Up.sc ?_ (by first|exact VX _|(simp;done) |omega) _) |(refine Up.step (by assumption) ?_)))):p:=h
theorem Yb{p:Prop}(h:p:=by kernel_rfl):p:=h
theorem Yc{p:Prop}(h:p:=by unfold NN;omega):p:=h
theorem Yd{p:Prop}(h:p:=by grind):p:=h
theorem Ye{p:Prop}(h:p:=by simp):p:=h
theorem Yf{p:Prop}(h:p:=by simp[Op.operands]):p:=h
theorem Yg{p:Prop}(h:p:=by simp_all):p:=h
theorem Yh{p:Prop}(h:p:=by first|exact VX _|(simp;done) |omega):p:=h
theorem Yi{p:Prop}(h:p:=by simp;omega):p:=h
theorem Yj{p:Prop}(h:p:=by cases h):p:=h
theorem Yk{p:Prop}(h:p:=by simp only[execOp,ho]):p:=h
theorem Yl{p:Prop}(h:p:=by simpa[pc,eq_comm]using hp):p:=h
theorem Ym{p:Prop}(h:p:=by simp only[VZ,VY];omega):p:=h
theorem Yn{p:Prop}(h:p:=by simp[iW,pF,nM,o5]):p:=h
theorem Yo{p:Prop}(h:p:=by unfold maxLen;omega):p:=h
theorem Yp{p:Prop}(h:p:=by assumption):p:=h
theorem Yq{p:Prop}(h:p:=by intro hh;have h_:=World.ownsRow.lt FK _ hh.symm;omega):p:=h
theorem Yr{p:Prop}(h:p:=by unfold maxLen;simp;omega):p:=h
theorem Ys{p:Prop}(h:p:=by intro hh;have h_:=World.ownsRow.lt HO0.out _ hh;omega):p:=h
theorem Yt{p:Prop}(h:p:=by unfold rq;omega):p:=h
theorem Yu{p:Prop}(h:p:=by have h_:=sw.size;simpa using h_):p:=h
theorem Yv{p:Prop}(h:p:=by unfold gg;simp_all):p:=h
theorem Yw{p:Prop}(h:p:=by obtain⟨q,h1,h2⟩:=HM3.out;exact h2.left h1 (by omega)):p:=h
theorem Yx{p:Prop}(h:p:=by rfl):p:=h
theorem Yy{p:Prop}(h:p:=by unfold gg;grind):p:=h
theorem Yz{p:Prop}(h:p:=by rw[dw];omega):p:=h
theorem YA{p:Prop}(h:p:=by intro hh;have h3_:wr.heap.size+1=g3:=VW hh;omega):p:=h
theorem YB{p:Prop}(h:p:=by have:=h.up.size;omega):p:=h
theorem YC{p:Prop}(h:p:=by rw[oV];omega):p:=h
theorem YD{p:Prop}(h:p:=by rw[sK];omega):p:=h
theorem YE{p:Prop}(h:p:=by rw[sJ];omega):p:=h
theorem YF{p:Prop}(h:p:=by simp only[dw,V3,VZ,VY];omega):p:=h
theorem YG{p:Prop}(h:p:=by unfold dY;grind):p:=h
open Nat renaming add_mul->Xf,add_comm->Xt,zero_mul->XK,zero_add->We,add_assoc->XG,le_refl->VX,le_trans->Wq,lt_of_lt_of_le->WT,lt_or_ge->Wv,zero_le->Wu,succ_mul->Xh,mod_eq_of_lt->XQ,mul_le_mul_right->Wa,add_mul_mod_self_right->XX,div_lt_iff_lt_mul->Xv
open List renaming getElem?_eq_some_iff->VT,getElem?_append_left->Wt,getElem?_append_right->WM,getElem?_eq_getElem->VU,range->Wg,all_eq_true->V2,mem_of_getElem?->VV,length_take->WR,replicate->V7,length_set->WI,getElem?_set_ne->Wx,ofFn->Xq,length_drop->W9,getElem?_of_mem->WD,getElem?_set_self->WL,getElem?_toArray->Xu,getElem?_take_of_lt->Xn
open _root_.Array renaming getElem?_eq_some_iff->Wh,getElem?_eq_getElem->V8,range->XO,getElem?_toList->W6,length_toList->Xd
open Option renaming map_eq_some_iff->Wb,ite_none_right_eq_some->WO,ite_none_left_eq_some->XN
open BitVec renaming ofInt->V9
open Option.some renaming injEq->V4
set_option maxRecDepth 10000
open Go.RowKit
variable {AH AI:Option Value}{T e t ty:TypeId}{a b:World}{c i j k l n off ν:Nat}{d:TypeDesc}{op:BinOp}{x y:Value}
abbrev I(n:Int):Value:=YM YN n
class eQ(α:Type) where
 cells:α->List Value
 k:Nat
 len:∀x,(cells x).length=k
 pos:0<k
 one:∀x,∀u∈cells x,u.oneCell'=YJ
instance :eQ Int where
 cells x:=[I x]
 k:=1
 len _:=rfl
 pos:=by decide
 one:=by simp[Value.oneCell',I]
def flat{α:Type}[eQ α](xs:List α):List Value:=xs.flatMap eQ.cells
section flat
variable {α:Type} [eQ α]
theorem tA(x:α)(xs:List α):flat (x::xs)=eQ.cells x++flat xs:=rfl
theorem HY(xs ys:List α):flat (xs++ys)=flat xs++flat ys:=by simp[flat]
theorem Q2(x:α):flat [x]=eQ.cells x:=by simp[flat]
theorem rz(xs:List α):(flat xs).length=xs.length*eQ.k α:=by
 induction xs with
 |nil=>simp[flat]
 |cons x xs ih=>rw[tA,List.length_append,ih,eQ.len,List.length_cons,Xf,Nat.one_mul,Xt]
theorem Fz(xs:List α):∀u∈flat xs,u.oneCell'=true:=by
 intro u hu;obtain⟨x,_,hx⟩:=List.mem_flatMap.1 hu;exact eQ.one x u hx
theorem ug{xs:List α}{x:α}(hx:xs[i]?=YH x){u:Value}(hu:(eQ.cells x)[j]?=YH u):(flat xs)[i*eQ.k α+j]?=YH u:=by
 induction xs generalizing i with
 |nil=>grind
 |cons y ys ih=>
  have hl:=eQ.len (α:=α) y
  cases i with
  |zero=>
   obtain rfl:y=x:=by simp_all
   have hj:j<(eQ.cells y).length:=(VT.1 hu).1;rw[tA,XK,We,Wt hj,hu]
  |succ i=>
   have h1:=ih (i:=i) Yg;rw[tA,WM Yd,<-h1]
   grind
end flat
def Rd{α:Type}[eQ α](w:World)(B:Nat)(A:Option Addr)(xs:List α):Prop:=
 xs≠[]->∃b off,A=YH ⟨b,off,YI⟩/\b<B/\∀j u,(flat xs)[j]?=YH u->w.cell? ⟨b,off+j,YI⟩=YH u
section rd
variable {α:Type} [eQ α] {w w':World} {B B':Nat} {A:Option Addr} {xs:List α}
theorem Rd.Vs:Rd w B A ([]:List α):=λh=>absurd rfl h
theorem Rd.aP{x:α}(h:Rd w B A xs)(hx:xs[i]?=YH x):
 ∃b off,A=YH ⟨b,off,YI⟩/\b<B/\∀j u,(eQ.cells x)[j]?=YH u->w.cell? ⟨b,off+i*eQ.k α+j,YI⟩=YH u:=by
 obtain⟨b,off,e,hb,hc⟩:=h Yd;exact⟨b,off,e,hb,λj u hu=>by rw[XG];exact hc _ u (ug hx hu)⟩
theorem Rd.U9(h:Rd w B A xs)(hk:∀b o,b<B->w'.cell? ⟨b,o,YI⟩=w.cell? ⟨b,o,YI⟩):Rd w' B A xs:=λhn=>by
 obtain⟨b,off,e,hb,hc⟩:=h hn
 grind
theorem Rd.more(h:Rd w B A xs)(hB:B<=B'):Rd w B' A xs:=λhn=>by
 obtain⟨b,off,e,hb,hc⟩:=h hn
 grind
theorem Rd.below(h:Rd w B A xs)(hb:Below B w w'):Rd w' B A xs:=h.U9 λb o hp=>hb.cell (p:=⟨b,o,YI⟩) hp
end rd
def Own{α:Type}[eQ α](w:World)(B:Nat)(E:TypeId)(v:Value)(xs:List α):Prop:=w.ownsRow B E (eQ.k α) v xs.length (flat xs)
theorem EX{α:Type}{xs:List α}{x:α}(hx:xs[i]?=YH x):xs.take (i+1)=xs.take i++[x]:=by
 rw[List.take_add_one,hx];rfl
theorem zf{α:Type}{xs:List α}(h:i<xs.length):∃x,xs[i]?=YH x:=⟨xs[i],VU h⟩
theorem Es{α:Type}{xs:List α}{x:α}(hx:xs[i]?=YH x):i<xs.length:=(VT.1 hx).1
theorem ui{α β:Type}{xs:List α}{x:α}(hx:xs[i]?=YH x)(f:β->α->β)(a:β):(xs.take (i+1)).foldl f a=f ((xs.take i).foldl f a) x:=by
 rw[EX hx,List.foldl_append];rfl
theorem Below.next{B:Nat}{a b c:World}(h:Below B a b)(k:Below b.heap.size b c)(hB:B<=b.heap.size):Below B a c:=h.trans (k.mono hB)
abbrev Up(w w':World):Prop:=Below w.heap.size w w'
theorem Up.rfl'(w:World):Up w w:=Below.refl _ _
theorem Up.step{a b c:World}(k:Up b c)(h:Up a b):Up a c:=Below.trans h (Below.mono k h.size)
theorem Up.al(o:Obj)(h:Up a b):Up a (b.alloc o):=Below.alloc h h.size o
theorem Up.sc{p:Addr}(h:Up a b)(hp:a.heap.size<=p.block)(u:Value):Up a (b.setCell p u):=Below.setCell h hp u
theorem Up.dr(n:Nat)(h:Up a b):Up a (b.drewN n):=⟨h.os,h.tape,h.output,h.size,h.block⟩
theorem Up.uO(h:Up a b):Up a b.drew:=Below.drew h
theorem Rd.up{α:Type}[eQ α]{w w':World}{A:Option Addr}{xs:List α}(h:Rd w w.heap.size A xs)(hb:Up w w'):Rd w' w'.heap.size A xs:=(h.below hb).more hb.size
theorem Own.rd{α:Type}[eQ α]{w:World}{B E:Nat}{A:Option Addr}{xs:List α}(h:Own w B E (.slice A n c) xs):Rd w w.heap.size A xs:=by
 intro iq;have gH:0<xs.length:=List.length_pos_iff.2 iq
 rcases h.2 with⟨_,h0⟩ |⟨g,cap,cur,hv,hB,hg,va,Ef,sL,ht⟩
 ·omega
 ·have hA:A=YH ⟨g,0,YI⟩:=by simp_all
  refine⟨g,0,hA,(Wh.1 hg).1,λj u hu=>?_⟩
  rw[We,cell_of_row w g j cur E (0,0) hg]
  grind
theorem Own.up{α:Type}[eQ α]{w w':World}{B E:Nat}{v:Value}{xs:List α}(h:Own w B E v xs)(hb:Up w w'):Own w' B E v xs:=by
 refine⟨h.1,?_⟩
 rcases h.2 with h2|⟨g,cap,cur,hv,hB,hg,r⟩
 ·simp_all
 ·exact .inr ⟨g,cap,cur,hv,hB,(hb.block g (Wh.1 hg).1).trans hg,r⟩
def xA(n:Nat)(f:Nat->Bool):Bool:=(Wg n).all f
theorem vJ{f:Nat->Bool}:xA n f=YJ↔∀i,i<n->f i=true:=by simp[xA]
theorem run_mk{P:Program}(t e:TypeId)(i:TypeInfo)(z:Value)(ht:P.underlying t=YH (.slice e))(hi:P.info? e=YH i)(hz:i.zero=YH z)
 (n:Nat) (qw:i.bytes*n<=281474976710656) (h63:n<=9223372036854775807) (w:World):
 (Instr.makeSlice t (YM YN (n:Int)) (YM YN (n:Int))).run P w=.ok (.slice (YH ⟨w.heap.size,0,YI⟩) n n) (w.alloc (.cells (madeCells z.cells (n*i.size)) e)):=by
 have hb:(i.bytes:Int)*(n:Int)<=281474976710656:=by
  omega
 have hr:=run_make (P:=P) w t e i z ht hi hz .i64 .i64 n n X9 X9 hb X9
 simp_all
def Qd (w : World) : Prop := Lib.TabIs prog w "internal/strconv.uint64pow10" .u64 Lib.pow10Tab
def TabF(w:World):Prop:=Qd w
theorem TabF.Nl{w:World}(h:TabF w):Qd w:=h
def Dn(w:World)(O:Nat->Prop):Prop:=∃T:Nat->Prop,(∀b,T b->b<w.heap.size/\¬O b)/\∀w':World,(∀b,T b->w'.heap[b]?=w.heap[b]?)->TabF w'
theorem Dn.of{w:World}{O:Nat->Prop}(h:∀w:World,TabF w):Dn w O:=⟨λ_=>False,λ_ h=>h.elim,λw' _=>h w'⟩
theorem Dn.here{w:World}{O:Nat->Prop}(h:Dn w O):TabF w:=by
 obtain⟨T,_,h2⟩:=h;exact h2 w λ_ _=>rfl
inductive PV where
 |v (x:Value)
 |ud
 |un
 |sl (es:List (List PV))
 |rp (cs:List PV)
 |ms (l:Nat)
 |ss (l a b:Nat)
 |be (l i o:Nat)
 |ag (cs:List PV)
 |tu (vs:List PV)
 |fn (f:FuncId) (cs:List PV)
instance :Inhabited PV:=⟨.un⟩
structure TK where
 t:TypeId
 kd:Option TypeId
def TK.of(n:TypeId):TK:=⟨n,YI⟩
instance :Coe TypeId TK:=⟨TK.of⟩
@[simp] theorem TK.t_n(n:Nat):(TK.of n).t=n:=rfl
@[simp] theorem TK.ZhE(n:Nat):(TK.of n).kd=none:=rfl
def OU:PV->Bool
 |.sl (_::_)=>YK
 |_=>YJ
def TK.stb(T:TK)(b:Bool):TK:=match T.kd with
 |none=>T
 |some _=>if b=YJ then T else⟨T.t,YI⟩
def TK.st(T:TK)(qs:List PV):TK:=T.stb (qs.all OU)
def TK.P0(T:TK)(es:List (List PV)):TK:=T.stb (es.all λqs=>qs.all OU)
@[simp] theorem TK.ZhJ(n:Nat)(qs:List PV):(TK.of n).st qs=TK.of n:=rfl
@[simp] theorem TK.ZgU(n:Nat)(es:List (List PV)):(TK.of n).P0 es=TK.of n:=rfl
theorem TK.Zbi(T:TK)(b:Bool):(T.stb b).t=T.t:=by
 unfold TK.stb
 grind
theorem TK.ZeS(T:TK)(qs:List PV):(T.st qs).t=T.t:=T.Zbi _
theorem TK.JJ(T:TK)(es:List (List PV)):(T.P0 es).t=T.t:=T.Zbi _
theorem TK.Tj{T:TK}{b:Bool}{T':TypeId}(h:(T.stb b).kd=YH T'):T.kd=YH T'/\b=true:=by
 unfold TK.stb at h
 grind
theorem F0{qs:List PV}(h:qs.all OU=YJ){es:List (List PV)}(hj:qs[j]?=YH (.sl es)):es=[]:=by
 have:=V2.1 h _ (VV hj)
 cases es with
 |nil=>rfl
 |cons a l=>cases this
structure MB where
 T:TK
 k:Nat
 es:List (List PV)
abbrev Mem:=List (Option MB)
inductive fg(w:World)(S:Nat->Prop):PV->Value->Prop
 |v (x:Value) (h:x.oneCell'=YJ):fg w S (.v x) x
 |ud:fg w S .ud YO
 |un (x:Value):fg w S .un x
 |nil (A:Option Addr) (c:Nat):fg w S (.sl []) (.slice A 0 c)
 |sl (es:List (List PV)) (b off k c:Nat) (u:Nat->Nat->Value) (hS:S b) (hk:0<k) (hn:es.length<=c) (hm:c<=maxLen)
  (xT:∀(i:Nat) (cs:List PV),es[i]?=YH cs->cs.length=k)
  (hc:∀(i:Nat) (cs:List PV) (j:Nat) (p:PV),es[i]?=YH cs->cs[j]?=YH p->w.cell? ⟨b,off+i*k+j,YI⟩=YH (u i j))
  (h1:∀(i:Nat) (cs:List PV) (j:Nat) (p:PV),es[i]?=YH cs->cs[j]?=YH p->(u i j).oneCell'=YJ)
  (hr:∀(i:Nat) (cs:List PV) (j:Nat) (p:PV),es[i]?=YH cs->cs[j]?=YH p->fg w S p (u i j)):fg w S (.sl es) (.slice (YH ⟨b,off,YI⟩) es.length c)
 |rp (cs:List PV) (b off:Nat) (u:Nat->Value) (hS:S b)
  (hc:∀(j:Nat) (p:PV),cs[j]?=YH p->w.cell? ⟨b,off+j,YI⟩=YH (u j))
  (h1:∀(j:Nat) (p:PV),cs[j]?=YH p->(u j).oneCell'=YJ)
  (hr:∀(j:Nat) (p:PV),cs[j]?=YH p->fg w S p (u j)):fg w S (.rp cs) (.pointer (YH ⟨b,off,YI⟩))
 |fn (f:FuncId) (cs:List PV) (vs:Array Value) (hl:vs.size=cs.length)
  (hr:∀(j:Nat) (p:PV) (x:Value),cs[j]?=YH p->vs[j]?=YH x->fg w S p x):fg w S (.fn f cs) (.func (.func f) #[] vs)
structure qm where
 b:Nat
 c:Nat
 n:Nat
 k:Nat
 T:TypeId
 z:Bool
def qm.sv(B:qm):Value:=if B.z then .slice YI 0 0 else .slice (YH ⟨B.b,0,YI⟩) B.n B.c
abbrev Key:=Nat×Nat×Nat
structure Env where
 S:Nat->Prop
 β:Nat->Option qm
 used:Nat->Prop
 ω:Nat->Key->Prop
inductive dE(w:World)(E:Env):PV->Value->Prop
 |c {p:PV} {x:Value} (h:fg w E.S p x):dE w E p x
 |ms (l:Nat) (x:Value) (hl:E.used l) (h1:x.oneCell'=YJ) (h:∀B,E.β l=YH B->x=B.sv):dE w E (.ms l) x
 |ss (l a b:Nat) (x:Value) (hl:E.used l) (h1:x.oneCell'=YJ) (h:∀B,E.β l=YH B->(∃A c,x=.slice A (b-a) c/\a<=b/\b<=B.n/\(a<b->B.z=YK/\A=YH ⟨B.b,a*B.k,YI⟩/\b-a<=c/\c<=maxLen))/\(a=0->B.z=YK->∃n,x=.slice (YH ⟨B.b,0,YI⟩) n B.c)):dE w E (.ss l a b) x
 |be (l i o:Nat) (x:Value) (hl:E.used l) (h1:x.oneCell'=YJ) (h:∀B,E.β l=YH B->B.z=YK/\x=.pointer (YH ⟨B.b,i*B.k+o,YI⟩)):dE w E (.be l i o) x
 |ag (cs:List PV) (vs:Array Value) (hl:vs.size=cs.length) (h1:∀(j:Nat) (x:Value),vs[j]?=YH x->x.oneCell'=YJ)
  (hr:∀(j:Nat) (p:PV) (x:Value),cs[j]?=YH p->vs[j]?=YH x->dE w E p x):dE w E (.ag cs) (.agg vs)
 |tu (ps:List PV) (vs:Array Value) (hl:vs.size=ps.length)
  (hr:∀(j:Nat) (p:PV) (x:Value),ps[j]?=YH p->vs[j]?=YH x->dE w E p x):dE w E (.tu ps) (.tuple vs)
 |fn (f:FuncId) (cs:List PV) (vs:Array Value) (hl:vs.size=cs.length)
  (hr:∀(j:Nat) (p:PV) (x:Value),cs[j]?=YH p->vs[j]?=YH x->dE w E p x):dE w E (.fn f cs) (.func (.func f) #[] vs)
def np(β:Nat->Option qm)(b:Nat):Prop:=∃l B,β l=YH B/\B.z=YK/\B.b=b
structure Ext(w w':World)(E E':Env):Prop where
 S:∀b,E.S b->E'.S b
 cell:∀b o,E.S b->w'.cell? ⟨b,o,YI⟩=w.cell? ⟨b,o,YI⟩
 β:∀l B,E.used l->E'.β l=YH B->E.β l=YH B
 used:∀l,E.used l->E'.used l
 S':∀b,E'.S b->E.S b\/w.heap.size<=b\/np E.β b
 own:∀b,np E'.β b->np E.β b\/w.heap.size<=b
 size:w.heap.size<=w'.heap.size
 ω:∀b k,E.ω b k->E'.ω b k/\w'.heap[b]?=w.heap[b]?
 ω':∀b k,E'.ω b k->E.ω b k\/w.heap.size<=b\/np E.β b
theorem Ext.refl(w:World)(E:Env):Ext w w E E:=⟨λ_ h=>h,λ_ _ _=>rfl,λ_ _ _ h=>h,λ_ h=>h,λ_ h=>.inl h,λ_ h=>.inl h,VX _,λ_ _ h=>⟨h,rfl⟩,λ_ _ h=>.inl h⟩
theorem Ext.trans{w w1 w2:World}{E E1 E2:Env}(h:Ext w w1 E E1)(k:Ext w1 w2 E1 E2):Ext w w2 E E2:=
 ⟨λb hb=>k.S b (h.S b hb),λb o hb=>(k.cell b o (h.S b hb)).trans (h.cell b o hb),λl B hl hB=>h.β l B hl (k.β l B (h.used l hl) hB),λl hl=>k.used l (h.used l hl),
  λb hb=>by
   rcases k.S' b hb with h1|h1|h1
   ·exact h.S' b h1
   ·exact .inr (.inl (Wq h.size h1))
   ·rcases h.own b h1 with h2|h2
    all_goals grind,λb hb=>by
   rcases k.own b hb with h1|h1
   ·exact h.own b h1
   ·exact .inr (Wq h.size h1),Wq h.size k.size,λb q hq=>⟨(k.ω b q (h.ω b q hq).1).1,(k.ω b q (h.ω b q hq).1).2.trans (h.ω b q hq).2⟩,λb q hq=>by
   rcases k.ω' b q hq with h1|h1|h1
   ·exact h.ω' b q h1
   ·exact .inr (.inl (Wq h.size h1))
   ·rcases h.own b h1 with h2|h2
    all_goals grind⟩
theorem fg.ext{w w':World}{S S':Nat->Prop}(hS:∀b,S b->S' b)(hc:∀b o,S b->w'.cell? ⟨b,o,YI⟩=w.cell? ⟨b,o,YI⟩){p:PV}(h:fg w S p x):fg w' S' p x:=by
 induction h with
 |v x h=>exact .v x h
 |ud=>exact .ud
 |un x=>exact .un x
 |nil A c=>exact .nil A c
 |sl es b off k c u hSb hk hn hm xT AS h1 hr ih=>
  exact .sl es b off k c u (hS b hSb) hk hn hm xT (λi cs j p h h'=>(hc _ _ hSb).trans (AS i cs j p h h')) h1 ih
 |rp cs b off u hSb AS h1 hr ih=>
  exact .rp cs b off u (hS b hSb) (λj p h=>(hc _ _ hSb).trans (AS j p h)) h1 ih
 |fn f cs vs hl hr ih=>exact .fn f cs vs hl ih
theorem dE.ext{w w':World}{E E':Env}(hx:Ext w w' E E'){p:PV}{x:Value}(h:dE w E p x):dE w' E' p x:=by
 induction h with
 |c h=>exact .c (h.ext hx.S hx.cell)
 |ms l x hl h1 h=>exact .ms l x (hx.used l hl) h1 λB hB=>h B (hx.β l B hl hB)
 |ss l a b x hl h1 h=>exact .ss l a b x (hx.used l hl) h1 λB hB=>h B (hx.β l B hl hB)
 |be l i o x hl h1 h=>exact .be l i o x (hx.used l hl) h1 λB hB=>h B (hx.β l B hl hB)
 |ag cs vs hl h1 hr ih=>exact .ag cs vs hl h1 ih
 |tu ps vs hl hr ih=>exact .tu ps vs hl ih
 |fn f cs vs hl hr ih=>exact .fn f cs vs hl ih
def GU(w:World)(E:Env)(T:TypeId)(q:Key)(es:List (List PV))(x:Value):Prop:=
 ∃b c k cs,x=.slice (YH ⟨b,0,YI⟩) es.length c/\E.ω b q/\w.heap[b]?=YH (.cells cs T (0,0))/\cs.size=c*k/\0<k/\es.length<=c/\c<=maxLen/\∀e∈es,e.length=k
theorem GU.ext{w w':World}{E E':Env}{q:Key}{es:List (List PV)}(h:GU w E T q es x)(hx:Ext w w' E E'):GU w' E' T q es x:=by
 obtain⟨b,c,k,cs,h1,h2,h3,h4⟩:=h;exact⟨b,c,k,cs,h1,(hx.ω b q h2).1,(hx.ω b q h2).2.trans h3,h4⟩
theorem dE.same{w:World}{E E':Env}(hS:∀b,E.S b->E'.S b)(xr:∀l B,E.used l->E'.β l=YH B->E.β l=YH B)(hu:∀l,E.used l->E'.used l){p:PV}(h:dE w E p x):dE w E' p x:=by
 induction h with
 |c h=>exact .c (h.ext hS λ_ _ _=>rfl)
 |ms l x hl h1 h=>exact .ms l x (hu l hl) h1 λB hB=>h B (xr l B hl hB)
 |ss l a b x hl h1 h=>exact .ss l a b x (hu l hl) h1 λB hB=>h B (xr l B hl hB)
 |be l i o x hl h1 h=>exact .be l i o x (hu l hl) h1 λB hB=>h B (xr l B hl hB)
 |ag cs vs hl h1 hr ih=>exact .ag cs vs hl h1 ih
 |tu cs vs hl hr ih=>exact .tu cs vs hl ih
 |fn f cs vs hl hr ih=>exact .fn f cs vs hl ih
structure gm(w:World)(E:Env)(mb:MB)(B:qm):Prop where
 k:B.k=mb.k
 n:B.n=mb.es.length
 T:B.T=mb.T.t
 pos:0<B.k
 nc:B.n<=B.c
 cm:B.c<=maxLen
 es:∀(i:Nat) (cs:List PV),mb.es[i]?=YH cs->cs.length=B.k
 nil:B.z=YJ->mb.es=[]
 mem:B.z=YK->∃cells:Array Value,w.heap[B.b]?=YH (.cells cells B.T (0,0))/\cells.size=B.c*B.k/\
  ∀(i:Nat) (cs:List PV) (j:Nat) (p:PV),mb.es[i]?=YH cs->cs[j]?=YH p->∃x,cells[i*B.k+j]?=YH x/\x.oneCell'=YJ/\dE w E p x
 key:∀T,mb.T.kd=YH T->B.z=YK->∀(i:Nat) (cs:List PV) (j:Nat) (es:List (List PV)) (x:Value),mb.es[i]?=YH cs->cs[j]?=YH (.sl es)->es≠[]->w.cell? ⟨B.b,i*B.k+j,YI⟩=YH x->GU w E T (mb.T.t,i,j) es x
theorem gm.ZcC{w:World}{E:Env}{T T':TK}{es:List (List PV)}{B:qm}(h:gm w E ⟨T,k,es⟩ B)(ht:T'.t=T.t)(hq:∀T1,T'.kd=YH T1->∀cs∈es,cs.all OU=YJ):gm w E ⟨T',k,es⟩ B:=
 ⟨h.k,h.n,h.T.trans ht.symm,h.pos,h.nc,h.cm,h.es,h.nil,h.mem,λT1 hT _ i cs j tl x hi hj iq _=>absurd (F0 (hq T1 hT cs (VV hi)) hj) iq⟩
theorem gm.part{w:World}{E:Env}{mb:MB}{B:qm}(h:gm w E mb B){b:Nat}(hb:b<=B.n):gm w E ⟨mb.T,mb.k,mb.es.take b⟩ ⟨B.b,B.c,b,B.k,B.T,B.z⟩:=by
 have get:∀{i:Nat} {cs:List PV},(mb.es.take b)[i]?=YH cs->mb.es[i]?=YH cs:=λhi=>by
  grind
 refine⟨h.k,?_,h.T,h.pos,Wq hb h.nc,h.cm,λi cs hi=>h.es i cs (get hi),λhz=>?_,λhz=>?_,λT hT hz i cs j es x hi hj iq hc=>h.key T hT hz i cs j es x (get hi) hj iq hc⟩
 ·rw[WR,Nat.min_eq_left (by rw[<-h.n];omega)]
 ·rw[h.nil hz,List.take_nil]
 ·obtain⟨cells,m1,m2,m3⟩:=h.mem hz
  grind
theorem GA{T:TK}{es:List (List PV)}{T1:TypeId}(h:(T.P0 es).kd=YH T1):T.kd=YH T1/\∀cs∈es,cs.all OU=true:=by
 obtain⟨h1,h2⟩:=TK.Tj h
 grind
theorem gm.ZaZ{w:World}{E:Env}{mb:MB}{B:qm}(h:gm w E mb B)(hi:0<mb.es.length):B.z=false:=by
 cases hz:B.z with
 |false=>rfl
 |true=>rw[h.nil hz]at hi;grind
structure Dp(O:Nat->Prop)(w0 w:World):Prop where
 os:w.os=w0.os
 tape:w.tape=w0.tape
 output:w.output=w0.output
 size:w0.heap.size<=w.heap.size
 block:∀b,b<w0.heap.size->¬O b->w.heap[b]?=w0.heap[b]?
theorem Dp.refl(O:Nat->Prop)(w:World):Dp O w w:=⟨rfl,rfl,rfl,VX _,λ_ _ _=>rfl⟩
theorem Dp.trans{O O':Nat->Prop}{a b c:World}(h:Dp O a b)(k:Dp O' b c)(hO:∀x,x<a.heap.size->O' x->O x):Dp O a c:=
 ⟨k.os.trans h.os,k.tape.trans h.tape,k.output.trans h.output,Wq h.size k.size,λx hx hn=>(k.block x (WT hx h.size) λh'=>hn (hO x hx h')).trans (h.block x hx hn)⟩
theorem Dp.none{w w':World}(h:Dp (λ_=>False) w w'):Up w w':=⟨h.os,h.tape,h.output,h.size,λb hb=>h.block b hb λh=>h⟩
structure Ok(w0:World)(O:Nat->Prop)(E:Env)(w:World)(m:Mem):Prop where
 up:Dp O w0 w
 sz:∀b,E.S b->b<w.heap.size
 own:∀l B,E.β l=YH B->B.z=YK->(O B.b\/w0.heap.size<=B.b)/\B.b<w.heap.size/\¬E.S B.b
 inj:∀l l' B B',E.β l=YH B->E.β l'=YH B'->B.z=YK->B'.z=YK->B.b=B'.b->l=l'
 used:∀l,E.used l->l<m.length
 bu:∀l B,E.β l=YH B->E.used l
 mem:∀l mb,m[l]?=YH (YH mb)->∃B,E.β l=YH B/\gm w E mb B
 dom:∀l B,E.β l=YH B->∃mb,m[l]?=YH (YH mb)
 Nl:Dn w0 O
 ow:∀b q,E.ω b q->E.S b/\∀q',E.ω b q'->q'=q
theorem Ok.ZgH{w0:World}{O:Nat->Prop}{E:Env}{w:World}{m:Mem}(h:Ok w0 O E w m){O':Nat->Prop}(hO:∀b,O' b->O b\/w0.heap.size<=b):Dn w O':=by
 obtain⟨T,h1,h2⟩:=h.Nl;refine⟨T,λb hb=>⟨WT (h1 b hb).1 h.up.size,λho=>?_⟩,λw' hw'=>h2 w' λb hb=>(hw' b hb).trans (h.up.block b (h1 b hb).1 (h1 b hb).2)⟩
 grind
theorem cell_of_heap{w w':World}{b o:Nat}(h:w'.heap[b]?=w.heap[b]?):w'.cell? ⟨b,o,YI⟩=w.cell? ⟨b,o,YI⟩:=by simp[World.cell?,h]
theorem gm.ext{w w':World}{E E':Env}{mb:MB}{B:qm}(h:gm w E mb B)(hx:Ext w w' E E')(hh:B.z=YK->w'.heap[B.b]?=w.heap[B.b]?):gm w' E' mb B:=by
 refine⟨h.k,h.n,h.T,h.pos,h.nc,h.cm,h.es,h.nil,λhz=>?_,λT hT hz i cs j es x hi hj iq hc=>(h.key T hT hz i cs j es x hi hj iq (by rw[<-cell_of_heap (hh hz)];omega)).ext hx⟩
 obtain⟨cells,h1,h2,h3⟩:=h.mem hz;exact⟨cells,(hh hz).trans h1,h2,λi cs j p e e'=>by
  obtain⟨x,a,b,c⟩:=h3 i cs j p e e';exact⟨x,a,b,c.ext hx⟩⟩
def oG(m:Mem)(ν:Nat)(mb:MB):Mem:=(m++V7 (ν+1-m.length) YI).set ν (YH mb)
theorem Ct(m:Mem)(ν:Nat)(mb:MB):(oG m ν mb).length=max m.length (ν+1):=by simp[oG];omega
theorem tP(m:Mem)(ν:Nat)(mb:MB):(oG m ν mb)[ν]?=YH (YH mb):=by
 unfold oG
 grind
theorem yl{m:Mem}{mb nv:MB}(h:l≠ν):(oG m ν mb)[l]?=YH (YH nv)↔m[l]?=YH (YH nv):=by
 unfold oG
 grind
def Env.add(E:Env)(ν:Nat)(B:qm):Env:={ S:=E.S,β:=λl'=>if l'=ν then YH B else E.β l',used:=λl=>l=ν\/E.used l,ω:=E.ω}
theorem Ok.new{w0 w w':World}{O:Nat->Prop}{E:Env}{m:Mem}(h:Ok w0 O E w m){ν:Nat}(vT:¬E.used ν)(mb:MB)(B:qm)
 (hos:w'.os=w.os) (Is:w'.tape=w.tape) (KF:w'.output=w.output) (xX:w.heap.size<=w'.heap.size) (hh:∀b,b<w.heap.size->w'.heap[b]?=w.heap[b]?)
 (hB:B.z=YK->w.heap.size<=B.b/\B.b<w'.heap.size) (hb:Ext w w' E (E.add ν B)->gm w' (E.add ν B) mb B):
 Ok w0 O (E.add ν B) w' (oG m ν mb)/\Ext w w' E (E.add ν B):=by
 have yR:∀{l:Nat} {B':qm},(E.add ν B).β l=YH B'->l≠ν->E.β l=YH B':=λnB hl=>by simpa[Env.add,hl]using nB
 have new:∀{B':qm},(E.add ν B).β ν=YH B'->B'=B:=λnB=>by simpa[Env.add,eq_comm]using nB
 have hx:Ext w w' E (E.add ν B):=by
  refine⟨λ_ hb=>hb,λb o hb=>cell_of_heap (hh b (h.sz b hb)),λl B' hl nB=>yR nB (λe=>vT (e▸hl)),λl hl=>.inr hl,λ_ hb=>.inl hb,?_,xX,λb q hq=>⟨hq,hh b (h.sz b (h.ow b q hq).1)⟩,λ_ _ h=>.inl h⟩
  rintro b ⟨l,B',nB,hz,rfl⟩
  by_cases hl:l=ν
  ·grind
  ·exact .inl ⟨l,B',yR nB hl,hz,rfl⟩
 refine⟨⟨⟨hos.trans h.up.os,Is.trans h.up.tape,KF.trans h.up.output,Wq h.up.size xX,λk hk hn=>(hh k YB).trans (h.up.block k hk hn)⟩,
  λb hb=>by have:=h.sz b hb;omega,?_,?_,?_,?_,?_,?_,h.Nl,h.ow⟩,hx⟩
 ·intro l B' nB hz
  by_cases hl:l=ν
  ·subst hl
   obtain rfl:=new nB;obtain⟨b1,b2⟩:=hB hz;exact⟨.inr YB,b2,λhS=>by have:=h.sz _ hS;omega⟩
  ·obtain⟨a,b,d⟩:=h.own l B' (yR nB hl) hz
   exact⟨a,X9,d⟩
 ·intro l l' B1 B2 h1 h2 z1 z2 e
  by_cases hl:l=ν<;>by_cases FI:l'=ν
  ·omega
  ·have:=(h.own l' B2 (yR h2 FI) z2).2.1
   grind
  ·have:=(h.own l B1 (yR h1 hl) z1).2.1
   grind
  ·exact h.inj l l' B1 B2 (yR h1 hl) (yR h2 FI) z1 z2 e
 ·intro l hl
  rw[Ct]
  rcases hl with rfl|hl
  ·omega
  ·have:=h.used l hl;omega
 ·intro l B' nB
  by_cases hl:l=ν
  ·exact .inl hl
  ·exact .inr (h.bu l B' (yR nB hl))
 ·intro l nv Dx
  by_cases hl:l=ν
  ·subst hl
   rw[tP]at Dx
   obtain rfl:mb=nv:=by grind
   exact⟨B,by simp[Env.add],hb hx⟩
  ·rw[yl hl]at Dx
   obtain⟨B',nB,FF⟩:=h.mem l nv Dx;exact⟨B',by simpa[Env.add,hl]using nB,FF.ext hx λhz=>hh _ (h.own l B' nB hz).2.1⟩
 ·intro l B' nB
  by_cases hl:l=ν
  ·subst hl;exact⟨mb,tP _ _ _⟩
  ·obtain⟨nv,Dx⟩:=h.dom l B' (yR nB hl)
   exact⟨nv,(yl hl).2 Dx⟩
theorem Ok.put{w0 w w':World}{O:Nat->Prop}{E:Env}{m:Mem}(h:Ok w0 O E w m){B:qm}(hB:E.β l=YH B)(hz:B.z=YK)(mb:MB)
 (hos:w'.os=w.os) (Is:w'.tape=w.tape) (KF:w'.output=w.output) (xX:w'.heap.size=w.heap.size) (hh:∀b,b≠B.b->w'.heap[b]?=w.heap[b]?)
 (hb:Ext w w' E E->gm w' E mb B):Ok w0 O E w' (m.set l (YH mb))/\Ext w w' E E:=by
 obtain⟨o1,o2,o3⟩:=h.own l B hB hz;have hx:Ext w w' E E:=⟨λ_ hb=>hb,λb o hb=>cell_of_heap (hh b (λe=>o3 (e▸hb))),λ_ _ _ h=>h,λ_ h=>h,λ_ hb=>.inl hb,λ_ hb=>.inl hb,X9,λb q hq=>⟨hq,hh b (λe=>o3 (e▸(h.ow b q hq).1))⟩,λ_ _ h=>.inl h⟩
 have Il:=h.used l (h.bu l B hB);refine⟨⟨⟨hos.trans h.up.os,Is.trans h.up.tape,KF.trans h.up.output,by rw[xX];exact h.up.size,λk hk hn=>(hh k (λe=>by
  grind)).trans (h.up.block k hk hn)⟩,
  λb hb=>by rw[xX];exact h.sz b hb,λl' B' nB uM=>by rw[xX];exact h.own l' B' nB uM,h.inj,λl' FI=>by rw[WI];exact h.used l' FI,h.bu,?_,?_,h.Nl,h.ow⟩,hx⟩
 ·intro l' nv Dx
  by_cases hl:l'=l
  ·grind
  ·rw[Wx (λe=>hl e.symm)]at Dx
   obtain⟨B',nB,FF⟩:=h.mem l' nv Dx;exact⟨B',nB,FF.ext hx λuM=>hh _ (λe=>hl (h.inj l' l B' B nB hB uM hz e))⟩
 ·intro l' B' nB
  by_cases hl:l'=l
  ·simp_all
  ·obtain⟨nv,Dx⟩:=h.dom l' B' nB
   grind
def Env.move(E:Env)(l ν:Nat)(B:qm):Env:={ S:=E.S,β:=λi=>if i=ν then YH B else if i=l then YI else E.β i,used:=λi=>i=ν\/E.used i,ω:=E.ω}
theorem Ok.move{w0 w w':World}{O:Nat->Prop}{E:Env}{m:Mem}(h:Ok w0 O E w m){ν:Nat}(vT:¬E.used ν){l:Nat}{B:qm}(hB:E.β l=YH B)(mb:MB)(B':qm)
 (hos:w'.os=w.os) (Is:w'.tape=w.tape) (KF:w'.output=w.output) (xX:w.heap.size<=w'.heap.size) (hh:∀b,b<w.heap.size->(B.z=YK->b≠B.b)->w'.heap[b]?=w.heap[b]?)
 (nB:B'.z=YK->(B.z=YK/\B'.b=B.b)\/w.heap.size<=B'.b) (bU:B'.z=YK->B'.b<w'.heap.size) (hb:Ext w w' E (E.move l ν B')->gm w' (E.move l ν B') mb B'):
 Ok w0 O (E.move l ν B') w' (oG (m.set l YI) ν mb)/\Ext w w' E (E.move l ν B'):=by
 have hlu:=h.bu l B hB;have yR:∀{i:Nat} {B1:qm},(E.move l ν B').β i=YH B1->i≠ν->i≠l/\E.β i=YH B1:=by
  intro i B1 wT hi;simp only[Env.move]at wT
  grind
 have new:∀{B1:qm},(E.move l ν B').β ν=YH B1->B1=B':=λwT=>by simpa[Env.move,eq_comm]using wT
 have Eh:∀b,E.S b->w'.heap[b]?=w.heap[b]?:=λb hb=>hh b (h.sz b hb) (λhz e=>(h.own l B hB hz).2.2 (e▸hb))
 have hx:Ext w w' E (E.move l ν B'):=
  ⟨λ_ hb=>hb,λb o hb=>cell_of_heap (Eh b hb),λi B1 hi wT=>(yR wT (λe=>vT (e▸hi))).2,λ_ hl=>.inr hl,λ_ hb=>.inl hb,λb ho=>by
   obtain⟨i,B1,wT,hz,rfl⟩:=ho
   by_cases hi:i=ν
   ·subst hi
    obtain rfl:=new wT
    rcases nB hz with⟨e1,e'⟩ |e'
    ·exact .inl ⟨l,B,hB,e1,e'.symm⟩
    omega
   ·exact .inl ⟨i,B1,(yR wT hi).2,hz,rfl⟩,xX,λb q hq=>⟨hq,Eh b (h.ow b q hq).1⟩,λ_ _ h=>.inl h⟩
 have apart:∀i B1,E.β i=YH B1->i≠l->B1.z=YK->B'.z=YK->B1.b≠B'.b:=by
  intro i B1 wT hi hz uM e
  rcases nB uM with⟨e1,e'⟩ |e'
  ·exact hi (h.inj i l B1 B wT hB hz e1 (e.trans e'))
  ·have:=(h.own i B1 wT hz).2.1;omega
 refine⟨⟨⟨hos.trans h.up.os,Is.trans h.up.tape,KF.trans h.up.output,Wq h.up.size xX,λk hk hn=>(hh k YB (λhz e=>by
  rcases(h.own l B hB hz).1 with o1|o1
  all_goals grind)).trans (h.up.block k hk hn)⟩,
  λb hb=>by have:=h.sz b hb;omega,?_,?_,?_,?_,?_,?_,h.Nl,h.ow⟩,hx⟩
 ·intro i B1 wT hz
  by_cases hi:i=ν
  ·subst hi
   obtain rfl:=new wT;refine⟨?_,bU hz,?_⟩
   ·rcases nB hz with⟨e1,e'⟩ |e'
    ·rw[e'];exact(h.own l B hB e1).1
    ·exact .inr YB
   ·intro hS
    rcases nB hz with⟨e1,e'⟩ |e'
    ·rw[e']at hS;exact(h.own l B hB e1).2.2 hS
    ·have:=h.sz _ hS;omega
  ·obtain⟨_,h2⟩:=yR wT hi
   obtain⟨a,b,d⟩:=h.own i B1 h2 hz;exact⟨a,X9,d⟩
 ·intro i i' B1 B2 h1 h2 z1 z2 e
  by_cases hi:i=ν<;>by_cases mZ:i'=ν
  ·omega
  ·grind
  ·grind
  ·exact h.inj i i' B1 B2 (yR h1 hi).2 (yR h2 mZ).2 z1 z2 e
 ·intro i hi
  rw[Ct,WI]
  rcases hi with rfl|hi
  ·omega
  ·have:=h.used i hi;omega
 ·intro i B1 wT
  by_cases hi:i=ν
  ·exact .inl hi
  ·exact .inr (h.bu i B1 (yR wT hi).2)
 ·intro i nv Dx
  by_cases hi:i=ν
  ·subst hi
   rw[tP]at Dx
   have e:mb=nv:=by simp_all
   subst e;exact⟨B',by simp[Env.move],hb hx⟩
  ·rw[yl hi]at Dx
   have Dk:i≠l:=by
    grind
   rw[Wx (λe=>Dk e.symm)]at Dx
   obtain⟨B1,wT,pk⟩:=h.mem i nv Dx;refine⟨B1,by simp[Env.move,hi,Dk,wT],pk.ext hx λhz=>hh _ (h.own i B1 wT hz).2.1 (λuM e=>Dk (h.inj i l B1 B wT hB hz uM e))⟩
 ·intro i B1 wT
  by_cases hi:i=ν
  ·subst hi;exact⟨mb,tP _ _ _⟩
  ·obtain⟨h3,h4⟩:=yR wT hi
   obtain⟨nv,Dx⟩:=h.dom i B1 h4;refine⟨nv,(yl hi).2 ?_⟩
   grind
theorem Ok.drew{w0 w:World}{O:Nat->Prop}{E:Env}{m:Mem}(h:Ok w0 O E w m)(n:Nat):Ok w0 O E (w.drewN n) m/\Ext w (w.drewN n) E E:=by
 have hx:Ext w (w.drewN n) E E:=⟨λ_ h=>h,λ_ _ _=>rfl,λ_ _ _ h=>h,λ_ h=>h,λ_ h=>.inl h,λ_ h=>.inl h,VX _,λ_ _ h=>⟨h,rfl⟩,λ_ _ h=>.inl h⟩
 exact⟨⟨⟨h.up.os,h.up.tape,h.up.output,h.up.size,h.up.block⟩,h.sz,h.own,h.inj,h.used,h.bu,λl mb hm=>by obtain⟨B,hB,hb⟩:=h.mem l mb hm;exact⟨B,hB,hb.ext hx λ_=>rfl⟩,h.dom,h.Nl,h.ow⟩,hx⟩
def Ql(cs:Array Value):Bool:=cs.toList.all (·.oneCell')
def VJ:Value->PV
 |.agg cs=>if Ql cs then .ag (cs.toList.map .v)else .un
 |.tuple _=>.un
 |x=>.v x
def gh(t:List PV):Operand->PV
 |.tmp i=>t.getD i .un
 |.const x=>VJ x
 |.func f=>.v (.func (.func f) #[] #[])
 |.global _=>.un
def rG(w:World)(E:Env)(t:List PV)(tm:Array Value):Prop:=tm.size=t.length/\∀i p,t[i]?=YH p->dE w E p (tm.getD i YO)
section
variable {w:World} {O:Nat->Prop} {E:Env} {w0:World} {m:Mem}
theorem dE.un'(x:Value):dE w E .un x:=.c (.un x)
theorem dE.gW{a x:Value}(h:dE w E (.v a) x):x=a/\a.oneCell'=true:=by
 cases h with
 |c h=>cases h with|v _ h=>simp_all
theorem dE.vB{es:List (List PV)}(h:dE w E (.sl es) x):fg w E.S (.sl es) x:=by cases h with|c h=>exact h
theorem dE.LM{cs:List PV}(h:dE w E (.rp cs) x):fg w E.S (.rp cs) x:=by cases h with|c h=>exact h
theorem dE.qq{cs:List PV}(h:dE w E (.ag cs) x):∃vs:Array Value,x=.agg vs/\vs.size=cs.length/\(∀(j:Nat) (x:Value),vs[j]?=YH x->x.oneCell'=YJ)/\∀(j:Nat) (p:PV) (x:Value),cs[j]?=YH p->vs[j]?=YH x->dE w E p x:=by
 cases h with
 |c h=>cases h
 |ag _ vs hl h1 hr=>grind
theorem dE.xo{ps:List PV}(h:dE w E (.tu ps) x):∃vs:Array Value,x=.tuple vs/\vs.size=ps.length/\∀(j:Nat) (p:PV) (x:Value),ps[j]?=YH p->vs[j]?=YH x->dE w E p x:=by
 cases h with
 |c h=>cases h
 |tu _ vs hl hr=>grind
theorem dE.tf(hk:Ok w0 O E w m){mb:MB}(hm:m[l]?=YH (YH mb))(h:dE w E (.ms l) x):∃B,E.β l=YH B/\gm w E mb B/\x=B.sv:=by
 obtain⟨B,hB,hb⟩:=hk.mem l mb hm
 cases h with
 |c h=>cases h
 |ms _ _ _ _ h=>simp_all
theorem dE.zH(hk:Ok w0 O E w m){l a b:Nat}{mb:MB}(hm:m[l]?=YH (YH mb))(h:dE w E (.ss l a b) x):∃B,E.β l=YH B/\gm w E mb B/\
 ∃A c,x=.slice A (b-a) c/\a<=b/\b<=B.n/\(a<b->B.z=YK/\A=YH ⟨B.b,a*B.k,YI⟩/\b-a<=c/\c<=maxLen):=by
 obtain⟨B,hB,hb⟩:=hk.mem l mb hm
 cases h with
 |c h=>cases h
 |ss _ _ _ _ _ _ h=>simp_all
theorem dE.Ng(hk:Ok w0 O E w m){l b:Nat}{mb:MB}(hm:m[l]?=YH (YH mb))(h:dE w E (.ss l 0 b) x):∃B,E.β l=YH B/\gm w E mb B/\b<=B.n/\(B.z=YK->x=.slice (YH ⟨B.b,0,YI⟩) b B.c)/\∃A c,x=.slice A b c:=by
 obtain⟨B,hB,hb⟩:=hk.mem l mb hm
 cases h with
 |c h=>cases h
 |ss _ _ _ _ _ _ h=>
  grind
theorem dE.Br(hk:Ok w0 O E w m){l i o:Nat}{mb:MB}(hm:m[l]?=YH (YH mb))(h:dE w E (.be l i o) x):∃B,E.β l=YH B/\gm w E mb B/\B.z=YK/\x=.pointer (YH ⟨B.b,i*B.k+o,YI⟩):=by
 obtain⟨B,hB,hb⟩:=hk.mem l mb hm
 cases h with
 |c h=>cases h
 |be _ _ _ _ _ _ h=>simp_all
theorem dE.FA{f:FuncId}{cs:List PV}(h:dE w E (.fn f cs) x):∃vs:Array Value,x=.func (.func f) #[] vs/\vs.size=cs.length/\∀(j:Nat) (p:PV) (x:Value),cs[j]?=YH p->vs[j]?=YH x->dE w E p x:=by
 cases h with
 |c h=>cases h with
  |fn _ _ vs hl hr=>exact⟨vs,rfl,hl,λj p x hp hx=>.c (hr j p x hp hx)⟩
 |fn _ _ vs hl hr=>grind
theorem l6(hk:Ok w0 O E w m){mb:MB}(hm:m[l]?=YH (YH mb)):E.used l:=by
 obtain⟨B,hB,_⟩:=hk.mem l mb hm;exact hk.bu l B hB
theorem I9(x:Value):dE w E (VJ x) x:=by
 unfold VJ
 split
 ·rename_i cs
  split
  ·rename_i h
   have wU:∀v∈cs.toList,v.oneCell'=true:=by simp only[Ql,V2]at h;exact h
   refine .ag _ _ Ye (λj x hx=>wU x Yd) λj p x hp hx=>?_
   have e:p=.v x:=by simp_all
   subst e;exact .c (.v x (wU x Yd))
  ·exact .un' _
 ·exact .un' _
 ·rename_i h1 h2
  refine .c (.v x ?_)
  cases x<;>simp_all[Value.oneCell']
theorem xP{t:List PV}{a:Act}(h:rG w E t a.tmps)(o:Operand):dE w E (gh t o) (a.eval o):=by
 cases o with
 |tmp i=>
  simp only[gh,Act.eval]
  rcases Wv i t.length with hi|hi
  ·have:=h.2 i _ (VU hi)
   simp_all
  ·have e:t.getD i .un=.un:=by simp_all
   rw[e];exact .un' _
 |const x=>exact I9 x
 |global g=>exact .un' _
 |func f=>exact .c (.v _ rfl)
def pc:PV->Option (List PV)
 |.ag cs=>YH cs
 |.v x=>YH [.v x]
 |.sl es=>YH [.sl es]
 |.rp cs=>YH [.rp cs]
 |.ms l=>YH [.ms l]
 |.ss l a b=>YH [.ss l a b]
 |.be l i o=>YH [.be l i o]
 |.fn f cs=>YH [.fn f cs]
 |_=>YI
theorem cells_one(h:x.oneCell'=YJ):x.cells=#[x]:=by cases x<;>simp_all[Value.oneCell',Value.cells]
theorem fg.one{S:Nat->Prop}{p:PV}(h:fg w S p x)(h1:p≠.ud)(h2:p≠.un):x.oneCell'=true:=by
 cases h<;>first|rfl|assumption|contradiction
theorem Gh{p:PV}(h:dE w E p x){cs:List PV}(hp:pc p=YH cs):x.cells.size=cs.length/\∀(j:Nat) (q:PV),cs[j]?=YH q->∃y,x.cells[j]?=YH y/\y.oneCell'=YJ/\dE w E q y:=by
 have one:x.oneCell'=YJ->cs=[p]->x.cells.size=cs.length/\∀(j:Nat) (q:PV),cs[j]?=YH q->∃y,x.cells[j]?=YH y/\y.oneCell'=YJ/\dE w E q y:=by
  intro h1 e;subst e;rw[cells_one h1]
  grind
 cases h with
 |c h=>
  cases h with
  |v _ h1=>exact one h1 Yl
  |ud=>simp[pc]at hp
  |un=>simp[pc]at hp
  |nil A c=>exact one rfl Yl
  |sl=>exact one rfl Yl
  |rp=>exact one rfl Yl
  |fn=>exact one rfl Yl
 |ms l _ hl h1=>exact one h1 Yl
 |ss l a b _ hl h1=>exact one h1 Yl
 |fn=>exact one rfl Yl
 |be l i o _ hl h1=>exact one h1 Yl
 |ag qu vs hl h1 hr=>
  obtain rfl:qu=cs:=by simpa[pc]using hp
  refine⟨hl,λj q hq=>?_⟩
  have hj:j<vs.size:=by grind
  exact⟨vs[j],V8 hj,h1 j _ (V8 hj),hr j q _ hq (V8 hj)⟩
 |tu=>simp[pc]at hp
def J3(m:Mem):PV->Option (List PV)
 |.be l i o=>match m[l]? with
  |some (YH mb)=>(mb.es[i]?).map (·.drop o)
  |_=>YI
 |.rp cs=>YH cs
 |_=>YI
theorem M6(hk:Ok w0 O E w m){p:PV}(h:dE w E p x){cs:List PV}(hp:J3 m p=YH cs):
 ∃b off,x=.pointer (YH ⟨b,off,YI⟩)/\b<w.heap.size/\∀(j:Nat) (q:PV),cs[j]?=YH q->∃y,w.cell? ⟨b,off+j,YI⟩=YH y/\y.oneCell'=YJ/\dE w E q y:=by
 cases p with
 |be l i o=>
  simp only[J3]at hp
  split at hp
  ·rename_i mb hm
   obtain⟨B,hB,hb,hz,rfl⟩:=h.Br hk hm;obtain⟨qu,ZdV,rfl⟩:=Wb.1 hp;refine⟨B.b,_,rfl,(hk.own l B hB hz).2.1,λj q hq=>?_⟩
   obtain⟨cells,h1,h2,h3⟩:=hb.mem hz;rw[List.getElem?_drop]at hq
   obtain⟨y,a,b,c⟩:=h3 i qu (o+j) q ZdV hq;exact⟨y,by rw[cell_of_row w B.b _ cells B.T (0,0) h1,XG];exact a,b,c⟩
  simp_all
 |rp qu=>
  obtain rfl:qu=cs:=by simpa[J3]using hp
  cases h.LM with
  |rp _ b off u hS hc h1 hr=>exact⟨b,off,rfl,hk.sz b hS,λj q hq=>⟨u j,hc j q hq,h1 j q hq,.c (hr j q hq)⟩⟩
 |_=>simp[J3]at hp
def Dq:TypeDesc->Bool
 |.struct _|.array _ _=>YJ
 |_=>YK
theorem sh{P:Program}(h:P.underlying t=YH d)(w:World):(isAgg t).run P w=.ok (Dq d) w:=by
 unfold isAgg;rw[Sem.run_bind,run_underlying h w]
 cases d<;>simp[Dq]
theorem FN{P:Program}(h:P.underlying t=YH d):∃i,P.info? t=YH i/\i.size=P.cellsOf t/\i.bytes=P.bytesOf t:=by
 unfold Program.underlying at h
 cases hi:P.info? t with
 |none=>simp_all
 |some i=>exact⟨i,rfl,by simp[Program.cellsOf,hi],by simp[Program.bytesOf,hi]⟩
theorem jW{P:Program}(h:0<P.cellsOf t):∃i,P.info? t=YH i/\i.size=P.cellsOf t:=by
 unfold Program.cellsOf at *
 cases hi:P.info? t with
 |none=>simp_all
 |some i=>simp
theorem run_sizeOf{P:Program}{i:TypeInfo}(h:P.info? t=YH i)(w:World):(sizeOf t).run P w=.ok i.size w:=by
 simp[sizeOf,typeInfo,h]
def rQ(P:Program)(T:TypeId)(cs:Option (List PV))(K:PV->Prop):Prop:=
 match P.underlying T,cs with
 |some d,YH cs=>match Dq d with
  |true=>P.cellsOf T<=cs.length/\K (.ag (cs.take (P.cellsOf T)))
  |false=>match cs with
   |c::_=>K c
   | []=>False
 |_,_=>False
theorem EA{P:Program}{cs:List PV}{K:PV->Prop}(h:rQ P T (YH cs) K){b off:Nat}(hb:b<w.heap.size)
 (hc:∀(j:Nat) (q:PV),cs[j]?=YH q->∃y,w.cell? ⟨b,off+j,YI⟩=YH y/\y.oneCell'=YJ/\dE w E q y):
 ∃p x,K p/\(∀w',Up w w'->(loadVar T ⟨b,off,YI⟩).run P w'=.ok x w')/\dE w E p x:=by
 unfold rQ at h
 split at h
 ·rename_i d qu hd sL
  obtain rfl:cs=qu:=by simp_all
  obtain⟨i,hi,hs,_⟩:=FN hd
  split at h
  ·rename_i My
   obtain⟨hle,hK⟩:=h;have hex:∀j:Fin (P.cellsOf T),∃y,w.cell? ⟨b,off+j,YI⟩=YH y/\y.oneCell'=YJ/\∀q,cs[j.1]?=YH q->dE w E q y:=by
    intro j;have hj:j.1<cs.length:=X9
    simp_all
   obtain⟨f,hf⟩:=Classical.axiomOfChoice hex;refine⟨_,.agg (Array.ofFn f),hK,λw' hu=>?_,?_⟩
   ·have hl:(loadCells ⟨b,off,YI⟩ (Xq f).length).run P w'=.ok (Xq f).toArray w':=run_loadCells_list (P:=P) w' _ (Xq f) λj v hv=>by
     have hj:j<P.cellsOf T:=by grind
     have e:(⟨b,off,YI⟩:Addr).add j=⟨b,off+j,YI⟩:=by unfold Addr.add;simp
     rw[e,hu.cell (p:=⟨b,off+j,YI⟩) hb,(hf ⟨j,hj⟩).1]
     simp_all
    simp only[List.length_ofFn]at hl
    have e2:(Xq f).toArray=Array.ofFn f:=by simp
    rw[e2]at hl
    simp[loadVar,sh hd,My,run_sizeOf hi,hs,hl]
   ·refine .ag _ _ Yg (λj x hx=>?_) λj p x hp hx=>?_
    ·have hj:j<P.cellsOf T:=by have:=(Wh.1 hx).1;simp_all
     have:f ⟨j,hj⟩=x:=by simp_all
     grind
    ·have hj:j<P.cellsOf T:=by grind
     have:f ⟨j,hj⟩=x:=by simp_all
     grind
  ·rename_i My
   split at h
   ·rename_i c qu
    obtain⟨y,h1,h2,h3⟩:=hc 0 c rfl;refine⟨c,y,h,λw' hu=>?_,h3⟩
    have Q9:w'.cell? ⟨b,off,YI⟩=YH y:=(hu.cell (p:=⟨b,off,YI⟩) hb).trans h1;simp[loadVar,sh hd,My,Q9]
   simp_all
 simp_all
theorem Lc{P:Program}{cs:List PV}{K:PV->Prop}(h:rQ P T (YH (cs.drop off)) K){vs:Array Value}(hl:vs.size=cs.length)
 (h1:∀(j:Nat) (x:Value),vs[j]?=YH x->x.oneCell'=YJ) (hr:∀(j:Nat) (p:PV) (x:Value),cs[j]?=YH p->vs[j]?=YH x->dE w E p x):
 ∃p x,K p/\(∀w',(part T vs off).run P w'=.ok x w')/\dE w E p x:=by
 unfold rQ at h
 split at h
 ·rename_i d qu hd sL
  obtain rfl:cs.drop off=qu:=by simp_all
  obtain⟨i,hi,hs,_⟩:=FN hd
  split at h
  ·rename_i My
   obtain⟨hle,hK⟩:=h;rw[W9]at hle
   refine⟨_,.agg (vs.extract off (off+P.cellsOf T)),hK,λw'=>?_,?_⟩
   ·simp[part,sh hd,My,run_sizeOf hi,hs]
   ·refine .ag _ _ Yd (λj x hx=>?_) λj p x hp hx=>?_
    ·rw[Array.getElem?_extract]at hx
     grind
    grind
  ·rename_i My
   split at h
   ·rename_i c qu ZdV
    have hc:cs[off]?=YH c:=by
     have:(cs.drop off)[0]?=YH c:=by simp_all
     grind
    have ho:off<vs.size:=by grind
    refine⟨c,vs[off],h,λw'=>?_,hr off c _ hc (V8 ho)⟩
    simp[part,sh hd,My,V8 ho]
   simp_all
 simp_all
end
def cY(a b:ByteArray):Bool:=YL (a.size+b.size<=9223372036854775807)
def qM(a b:ByteArray):Bool:=Op.bytesLess a.toList b.toList
def LO(a b:ByteArray):Bool:=Op.bytesLess a.toList b.toList ||a.toList==b.toList
theorem Int.Bu(a b:Int):(a==b)=YL (a=b):=rfl
theorem baL(a b:ByteArray):(a.toList=b.toList)=(a=b):=by
 obtain⟨⟨x⟩⟩:=a;obtain⟨⟨y⟩⟩:=b;simp
theorem baB(a b:ByteArray):(a.toList==b.toList)=YL (a=b):=by
 rw[Bool.eq_iff_iff,beq_iff_eq,baL,decide_eq_true_eq]
def T3(P:Program)(op:BinOp)(T:TypeId):Value->Value->Option Value
 |.int k a,.int k' b=>
  match op with
  |.shl=>if 0<=b then YH (.int k (k.wrap (a*2 ^ (min b.toNat k.bits))))else YI
  |.shr=>if 0<=b then YH (.int k (a.fdiv (2 ^ (min b.toNat k.bits))))else YI
  |.add=>if k=k' then YH (.int k (k.wrap (a+b)))else YI
  |.sub=>if k=k' then YH (.int k (k.wrap (a-b)))else YI
  |.mul=>if k=k' then YH (.int k (k.wrap (a*b)))else YI
  |.quo=>if k=k'/\b≠0 then YH (.int k (k.wrap (a.tdiv b)))else YI
  |.rem=>if k=k'/\b≠0 then YH (.int k (a.tmod b))else YI
  |.and=>if k=k' then YH (.int k (k.wrap (V9 k.bits a &&& V9 k.bits b).toNat))else YI
  |.or=>if k=k' then YH (.int k (k.wrap (V9 k.bits a |||V9 k.bits b).toNat))else YI
  |.xor=>if k=k' then YH (.int k (k.wrap (V9 k.bits a ^^^ V9 k.bits b).toNat))else YI
  |.eql=>if k=k' then YH (.bool (YL (a=b)))else YI
  |.neq=>if k=k' then YH (.bool (!decide (a=b)))else YI
  |.lss=>if k=k' then YH (.bool (YL (a<b)))else YI
  |.leq=>if k=k' then YH (.bool (YL (a<=b)))else YI
  |.gtr=>if k=k' then YH (.bool (YL (b<a)))else YI
  |.geq=>if k=k' then YH (.bool (YL (b<=a)))else YI
  |_=>YI
 |.string a,.string b=>
  match op with
  |.add=>if cY a b=YJ then YH (.string (a++b))else YI
  |.eql=>YH (.bool (YL (a=b)))
  |.neq=>YH (.bool !decide (a=b))
  |.lss=>YH (.bool (qM a b))
  |.leq=>YH (.bool (LO a b))
  |.gtr=>YH (.bool !LO a b)
  |.geq=>YH (.bool !qM a b)
  |_=>YI
 |.bool a,.bool b=>match P.underlying T with
  |some .bool=>match op with
   |.eql=>YH (.bool (a==b))
   |.neq=>YH (.bool !(a==b))
   |_=>YI
  |_=>YI
 |_,_=>YI
theorem Ha{P:Program}{x y:Operand}{a b r:Value}(h:T3 P op T a b=YH r)(w:World):
 ((do eqGuard op T x y a b;binOp op T a b:Sem Value).run P w)=.ok r w/\r.oneCell'=true:=by
 unfold T3 at h
 split at h
 ·rename_i k a k' b
  cases op<;>simp only[WO,V4,reduceCtorEq]at h
  all_goals first
   |(obtain⟨⟨rfl,h0⟩,rfl⟩:=h;simp[eqGuard,binOp,Op.intDiv,h0,Value.oneCell'])
   |(obtain⟨rfl,rfl⟩:=h;simp[eqGuard,binOp,Op.intArith,Op.intBits,Op.intCmp,Value.oneCell',bne];done)
   |(obtain⟨rfl,rfl⟩:=h;exact⟨by simp[eqGuard,binOp,Op.intCmp,bne,Int.Bu],rfl⟩)
   |(obtain⟨h0,rfl⟩:=h
     have h1:¬b<0:=X9;simp[eqGuard,binOp,Op.shift,h1,Value.oneCell'])
 ·rename_i a b
  cases op<;>simp only[WO,V4,reduceCtorEq]at h
  all_goals first
   |(subst h;simp[eqGuard,binOp,Op.stringOp,Value.oneCell',qM,LO,baB];done)
   |(obtain⟨h0,rfl⟩:=h
     have h0:a.size+b.size<=9223372036854775807:=X3 h0;simp only[eqGuard,binOp,Op.stringOp];simp[Value.oneCell'];omega)
 ·rename_i a b
  split at h
  ·rename_i hu
   cases op<;>simp only[V4,reduceCtorEq]at h
   all_goals(subst h;simp[eqGuard,binOp,Op.equal,Op.maxDepth,run_equalIn_bool' w _ _ _ _ hu,Value.oneCell'])
  grind
 grind
def BS(P:Program):Nat->TypeId->List PV->List PV->Option Bool
 |0,_,_,_=>YI
 |d+1,T,cs,ds=>
  match P.underlying T with
  |some .bool=>match cs,ds with
   |.v (.bool a)::_,.v (.bool b)::_=>YH (a==b)
   |_,_=>YI
  |some (.int _)=>match cs,ds with
   |.v (.int k a)::_,.v (.int k' b)::_=>if k=k' then YH (a==b)else YI
   |_,_=>YI
  |some .string=>match cs,ds with
   |.v (.string a)::_,.v (.string b)::_=>YH (a.toList==b.toList)
   |_,_=>YI
  |some (.struct _)=>if P.stoodInHeld T then YI else
   (P.fieldsOf T).toList.foldr (λf acc => if f.name = "_" then YI else match BS P d f.type ((cs.drop f.offset).take (P.cellsOf f.type)) ((ds.drop f.offset).take (P.cellsOf f.type)), acc with
    |some r,YH s=>YH (r&&s)
    |_,_=>YI) (YH YJ)
  |_=>YI
section
variable {w:World} {O:Nat->Prop} {E:Env} {w0:World} {m:Mem} {P:Program}
def uT(w:World)(E:Env)(P:Program)(T:TypeId)(cs:List PV)(x:Value):Prop:=
 ∀d,P.underlying T=YH d->(Dq d=YJ->∃vs:Array Value,x=.agg vs/\∀(j:Nat) (p:PV),cs[j]?=YH p->∃v,vs[j]?=YH v/\dE w E p v)/\(Dq d=YK->∀p,cs[0]?=YH p->dE w E p x)
theorem Mt:∀(d:Nat) (T:TypeId) (cs ds:List PV) (x y:Value) (r:Bool),BS P d T cs ds=YH r->uT w E P T cs x->uT w E P T ds y->∀w':World,(Op.equalIn d T x y).run P w'=.ok r w'
 |0,_,_,_,_,_,_,h,_,_,_=>by simp[BS]at h
 |d+1,T,cs,ds,x,y,r,h,hx,hy,w'=>by
  unfold BS at h
  split at h
  ·rename_i hu
   split at h
   ·rename_i a _ b _
    have h1:=((hx _ hu).2 rfl _ rfl).gW.1;have h2:=((hy _ hu).2 rfl _ rfl).gW.1;subst h1 h2;simp only[V4]at h
    subst h;exact run_equalIn_bool' w' _ _ _ _ hu
   grind
  ·rename_i k0 hu
   split at h
   ·rename_i k a _ k' b _
    simp only[WO,V4]at h
    obtain⟨rfl,rfl⟩:=h;have h1:=((hx _ hu).2 rfl _ rfl).gW.1;have h2:=((hy _ hu).2 rfl _ rfl).gW.1;subst h1 h2;simp[Op.equalIn,run_underlying hu]
   grind
  ·rename_i hu
   split at h
   ·rename_i a _ b _
    have h1:=((hx _ hu).2 rfl _ rfl).gW.1;have h2:=((hy _ hu).2 rfl _ rfl).gW.1;subst h1 h2;simp only[V4]at h
    subst h;exact run_equalIn_string w' _ _ _ _ hu
   grind
  ·rename_i fs hu
   simp only[XN]at h
   obtain⟨uL,h⟩:=h;have Zf9:P.stoodInHeld T=false:=by simp_all
   obtain⟨vs,rfl,hvs⟩:=(hx _ hu).1 rfl;obtain⟨us,rfl,hus⟩:=(hy _ hu).1 rfl;have hf:P.fieldsOf T=fs:=by simp[Program.fieldsOf,hu]
   rw[run_equalIn_struct w' d T vs us Yg Zf9,hf];rw[hf]at h
   generalize fs.toList=l at h
   clear hu hf
   induction l generalizing r with
   |nil=>simp only[List.foldr_nil,V4]at h;subst h;rfl
   |cons f l ih=>
    simp only[List.foldr_cons,XN]at h
    obtain⟨hn,h⟩:=h
    split at h
    ·rename_i r1 r2 h1 h2
     simp only[V4]at h
     subst h;have MW:∀{zs:Array Value} {es:List PV},(∀(j:Nat) (p:PV),es[j]?=YH p->∃v,zs[j]?=YH v/\dE w E p v)->((es.drop f.offset).take (P.cellsOf f.type))≠[]\/(∃fs,P.underlying f.type=YH (.struct fs))->
      (∃dd,P.underlying f.type=YH dd)->∃z,(part f.type zs f.offset).run P w'=.ok z w'/\uT w E P f.type ((es.drop f.offset).take (P.cellsOf f.type)) z:=by
      intro zs es hz iq ⟨dd,hd⟩;obtain⟨i,hi,hs,_⟩:=FN hd
      cases My:Dq dd with
      |true=>
       refine⟨.agg (zs.extract f.offset (f.offset+P.cellsOf f.type)),by simp[part,sh hd,My,run_sizeOf hi,hs],?_⟩
       intro d' wV
       grind
      |false=>
       have Zeb:((es.drop f.offset).take (P.cellsOf f.type))≠[]:=by
        rcases iq with h|⟨fs,h⟩
        ·exact h
        ·rw[hd]at h;cases h;simp[Dq]at My
       obtain⟨p,hp⟩:∃p,((es.drop f.offset).take (P.cellsOf f.type))[0]?=YH p:=by
        cases hq:((es.drop f.offset).take (P.cellsOf f.type))with
        |nil=>simp_all
        |cons a _=>simp
       have Ol:es[f.offset]?=YH p:=by
        grind
       obtain⟨v,h1,h2⟩:=hz _ p Ol;refine⟨v,by simp[part,sh hd,My,h1],?_⟩
       intro d' wV
       simp_all
     have FL:(((cs.drop f.offset).take (P.cellsOf f.type))≠[]\/(∃fs,P.underlying f.type=YH (.struct fs)))/\(((ds.drop f.offset).take (P.cellsOf f.type))≠[]\/(∃fs,P.underlying f.type=YH (.struct fs)))/\∃dd,P.underlying f.type=YH dd:=by
      cases d with
      |zero=>simp[BS]at h1
      |succ d=>
       unfold BS at h1
       grind
     obtain⟨a,ha,hac⟩:=MW hvs FL.1 FL.2.2;obtain⟨b,hb,hbc⟩:=MW hus FL.2.1 FL.2.2;have hr:=Mt d f.type _ _ a b r1 h1 hac hbc w';simp only[Op.eqFields,hn,ne_eq,not_false_eq_true,if_true,Sem.run_bind,ha,hb,hr,Result.andThen_ok,Sem.run_ite]
     cases r1 with
     |true=>simp_all
     |false=>simp
    grind
  grind
def F2(o:Option Value)(K:PV->Prop):Prop:=match o with
 |some r=>K (.v r)
 |none=>False
def uP(P:Program)(op:BinOp)(T:TypeId)(cs ds:List PV)(K:PV->Prop):Prop:=P.eqGuardType P.depth T=YK/\match P.underlying T,BS P 10000 T cs ds with
    |some (.struct _),YH r=>match op with
     |.eql=>K (.v (.bool r))
     |.neq=>K (.v (.bool !r))
     |_=>False
    |_,_=>False
def I0(P:Program)(op:BinOp)(T:TypeId)(x y:PV)(K:PV->Prop):Prop:=
 match x,y with
 |.v a,.v b=>F2 (T3 P op T a b) K
 |.ag cs,.ag ds=>uP P op T cs ds K
 |_,_=>False
theorem K7{ox oy:Operand}{p q:PV}(hx:dE w E p x)(hy:dE w E q y){K:PV->Prop}(h:I0 P op T p q K):
 ∃r v,K r/\(∀w',((do eqGuard op T ox oy x y;binOp op T x y:Sem Value).run P w')=.ok v w')/\dE w E r v:=by
 unfold I0 at h
 split at h
 ·rename_i a b
  obtain⟨rfl,_⟩:=hx.gW;obtain⟨rfl,_⟩:=hy.gW;unfold F2 at h
  split at h
  ·rename_i r hr
   exact⟨_,r,h,λw'=>(Ha hr w').1,.c (.v r (Ha (x:=ox) (y:=oy) hr w).2)⟩
  simp_all
 ·rename_i cs ds
  obtain⟨hg,h⟩:=h;obtain⟨vs,rfl,hl,_,hr⟩:=hx.qq;obtain⟨us,rfl,FI,_,Om⟩:=hy.qq
  split at h
  ·rename_i fs r hu he
   have c1:uT w E P T cs (.agg vs):=by
    intro d hd;rw[hu]at hd;cases hd;refine⟨λ_=>⟨vs,rfl,λj p hp=>?_⟩,λh=>by simp[Dq]at h⟩
    have hj:j<vs.size:=by grind
    exact⟨vs[j],V8 hj,hr j p _ hp (V8 hj)⟩
   have c2:uT w E P T ds (.agg us):=by
    intro d hd;rw[hu]at hd;cases hd;refine⟨λ_=>⟨us,rfl,λj p hp=>?_⟩,λh=>by simp[Dq]at h⟩
    have hj:j<us.size:=by grind
    exact⟨us[j],V8 hj,Om j p _ hp (V8 hj)⟩
   have kh:=λw'=>Mt (w:=w) (E:=E) 10000 T cs ds _ _ r he c1 c2 w'
   split at h
   ·exact⟨_,.bool r,h,λw'=>by simp[Sem.run_bind,run_eqGuard_agg w' _ _ _ _ _ _ hg,Result.andThen_ok,run_eql_struct,kh],.c (.v _ rfl)⟩
   ·exact⟨_,.bool !r,h,λw'=>by simp only[Sem.run_bind,run_eqGuard_agg w' _ _ _ _ _ _ hg,Result.andThen_ok,run_neq_struct,kh],.c (.v _ rfl)⟩
   simp_all
  simp_all
 simp_all
end
section
variable {w:World} {O:Nat->Prop} {E:Env} {w0:World} {m:Mem} {P:Program}
def pUn(op:UnOp)(x:PV)(K:PV->Prop):Prop:=
 match op,x with
 |.not,.v (.bool b)=>K (.v (.bool !b))
 |.neg,.v (.int k n)=>K (.v (.int k (k.wrap (0-n))))
 |_,_=>False
theorem O0{op:UnOp}{p:PV}(hx:dE w E p x){K:PV->Prop}(h:pUn op p K):∃r v,K r/\(∀w',(Op.unary op x).run P w'=.ok v w')/\dE w E r v:=by
 unfold pUn at h
 split at h
 ·obtain⟨rfl,_⟩:=hx.gW
  exact⟨_,_,h,λw'=>by rfl,.c (.v _ rfl)⟩
 ·obtain⟨rfl,_⟩:=hx.gW
  exact⟨_,_,h,λw'=>by rfl,.c (.v _ rfl)⟩
 grind
def Cy(P:Program)(s d:TypeId)(x:PV)(K:PV->Prop):Prop:=
 match P.underlying s,P.underlying d,x with
 |some (.int _),YH (.int k),.v (.int _ n)=>K (.v (.int k (k.wrap n)))
 |some .string,YH .string,.v (.string t)=>K (.v (.string t))
 |_,_,_=>False
theorem I2{s d:TypeId}{p:PV}(hx:dE w E p x){K:PV->Prop}(h:Cy P s d p K):∃r v,K r/\(∀w',(convert s d x).run P w'=.ok v w')/\dE w E r v:=by
 unfold Cy at h
 split at h
 ·rename_i _ k _ n h1 h2
  obtain⟨rfl,_⟩:=hx.gW;exact⟨_,_,h,λw'=>by simp[convert,run_underlying h1,run_underlying h2,Conv.intToInt],.c (.v _ rfl)⟩
 ·rename_i t h1 h2
  obtain⟨rfl,_⟩:=hx.gW;exact⟨_,_,h,λw'=>by simp[convert,run_underlying h1,run_underlying h2],.c (.v _ rfl)⟩
 grind
def live(m:Mem)(l:Nat)(K:MB->Prop):Prop:=
 match m[l]? with
 |some (YH mb)=>K mb
 |_=>False
theorem iv{K:MB->Prop}(h:live m l K):∃mb,m[l]?=YH (YH mb)/\K mb:=by
 unfold live at h
 grind
def F7(x:Option PV)(d:Int):Option Int:=
 match x with
 |none=>YH d
 |some (.v (.int _ i))=>YH i
 |_=>YI
def kK(P:Program)(m:Mem)(T:TypeId)(x:PV)(lo hi:Option PV)(K:PV->Prop):Prop:=
 match P.underlying T,x with
 |some .string,.v (.string s)=>match F7 lo 0,F7 hi s.size with
  |some l,YH h=>0<=l/\l<=h/\h<=s.size/\K (.v (.string (s.extract l.toNat h.toNat)))
  |_,_=>False
 |some (.slice e),.sl es=>match F7 lo 0,F7 hi es.length with
  |some l,YH h=>0<=l/\l<=h/\h<=es.length/\0<P.cellsOf e/\(∀cs∈es,cs.length=P.cellsOf e)/\K (.sl ((es.drop l.toNat).take (h.toNat-l.toNat)))
  |_,_=>False
 |some (.slice e),.ms r=>live m r λmb=>match F7 lo 0,F7 hi mb.es.length with
  |some l,YH h=>0<=l/\l<=h/\h<=mb.es.length/\0<P.cellsOf e/\mb.k=P.cellsOf e/\K (.ss r l.toNat h.toNat)
  |_,_=>False
 |some (.slice e),.ss r a b=>live m r λmb=>match F7 lo 0,F7 hi (b-a:Nat)with
  |some l,YH h=>0<=l/\l<=h/\h<=(b-a:Nat)/\0<P.cellsOf e/\mb.k=P.cellsOf e/\K (.ss r (a+l.toNat) (a+h.toNat))
  |_,_=>False
 |some (.slice e),.v (.slice YI 0 0)=>match F7 lo 0,F7 hi 0 with
  |some l,YH h=>0<=l/\l<=h/\h<=0/\0<P.cellsOf e/\K (.sl [])
  |_,_=>False
 |_,_=>False
theorem run_sliceBound{y:Nat}{c:BoundsCode}{k:IntKind}{i:Int}(h0:0<=i)(h1:i<=y)(w':World):(Instr.sliceBound (.int k i) y c).run P w'=.ok i.toNat w':=by
 simp[Instr.sliceBound,asIntOf,h0,h1]
theorem rj{x:Option PV}{v:Option Value}{d l:Int}(h:F7 x d=YH l)(hx:∀p,x=YH p->∃y,v=YH y/\dE w E p y)(hn:x=YI->v=YI):(v=YI/\l=d/\x=YI)\/∃k,v=YH (.int k l):=by
 unfold F7 at h
 split at h
 ·grind
 ·obtain⟨y,hy,hr⟩:=hx _ rfl
  obtain⟨rfl,_⟩:=hr.gW
  grind
 grind
theorem jA{isS:Bool}{len cap:Nat}{l h:Int}(Rq:(AI=YI/\l=0)\/∃k,AI=YH (.int k l))(hhi:(AH=YI/\h=len)\/∃k,AH=YH (.int k h))(h0:0<=l)(h1:l<=h)(h2:h<=len)(hc:len<=cap)(w':World):
 (Instr.sliceBounds isS len cap AI AH YI).run P w'=.ok (l.toNat,h.toNat,cap) w':=by
 have e1:(l:Int)<=(h.toNat:Int):=X9;have e2:h<=(cap:Int):=X9;have e3:0<=h:=X9;have r1:∀k c,(Instr.sliceBound (.int k l) h.toNat c).run P w'=.ok l.toNat w':=λk c=>run_sliceBound h0 e1 w'
 have r2:∀k c,(Instr.sliceBound (.int k h) cap c).run P w'=.ok h.toNat w':=λk c=>run_sliceBound e3 e2 w'
 rcases Rq with⟨rfl,rfl⟩ |⟨k,rfl⟩<;>rcases hhi with⟨rfl,rfl⟩ |⟨k',rfl⟩<;>
  (try simp only[Int.toNat_natCast]at r1)<;>simp[Instr.sliceBounds,r1,r2]
theorem rX{i:TypeInfo}(hu:P.underlying T=YH (.slice e))(mZ:P.info? e=YH i)(hs:i.size=P.cellsOf e){A:Option Addr}{l hh:Int}{w':World}
 (hb:(Instr.sliceBounds YJ n c AI AH YI).run P w'=.ok (l.toNat,hh.toNat,c) w'):
 (Instr.sliceAt T (.slice A n c) AI AH YI).run P w'=.ok (.slice (if c=l.toNat then A else A.map (·.add (l.toNat*P.cellsOf e))) (hh.toNat-l.toNat) (c-l.toNat)) w':=by
 simp[Instr.sliceAt,Instr.slice,run_underlying hu,hb,run_sizeOf mZ,hs]
theorem Ge(hk:Ok w0 O E w m){p:PV}{lo hi:Option PV}(hx:dE w E p x)(h1:∀p,lo=YH p->∃y,AI=YH y/\dE w E p y)(h1n:lo=YI->AI=YI)
 (h2:∀p,hi=YH p->∃y,AH=YH y/\dE w E p y) (h2n:hi=YI->AH=YI) {K:PV->Prop} (h:kK P m T p lo hi K):
 ∃r v,K r/\(∀w',(Instr.sliceAt T x AI AH YI).run P w'=.ok v w')/\dE w E r v:=by
 unfold kK at h
 split at h
 ·rename_i s hu
  obtain⟨rfl,_⟩:=hx.gW
  split at h
  ·rename_i l hh e1 e2
   obtain⟨a1,a2,a3,hK⟩:=h;refine⟨_,.string (s.extract l.toNat hh.toNat),hK,λw'=>?_,.c (.v _ rfl)⟩
   have b1:=rj e1 h1 h1n;have b2:=rj e2 h2 h2n;have hb:=jA (P:=P) (isS:=YK) (len:=s.size) (cap:=s.size) (l:=l) (h:=hh) (AI:=AI) (AH:=AH) Yd Yd a1 a2 a3 (VX _) w';simp[Instr.sliceAt,Instr.slice,run_underlying hu,hb]
  grind
 ·rename_i e es hu
  split at h
  ·rename_i l hh e1 e2
   obtain⟨a1,a2,a3,gH,hlen,hK⟩:=h;have b1:=rj e1 h1 h1n;have b2:=rj e2 h2 h2n;obtain⟨i,mZ,hs⟩:=jW gH
   cases hx.vB with
   |nil A c=>
    simp at a3 b2
    have Ik:l=0:=X9;have hh0:hh=0:=X9;subst Ik hh0;have hb:=jA (P:=P) (isS:=YJ) (len:=0) (cap:=c) (l:=0) (h:=0) (AI:=AI) (AH:=AH) Yd Yd X9 X9 Ye (Wu _);refine⟨_,.slice (if c=0 then A else A.map (·.add 0)) 0 c,hK,λw'=>?_,?_⟩
    ·simp[Instr.sliceAt,Instr.slice,run_underlying hu,hb,run_sizeOf mZ]
    ·exact .c (.nil _ _)
   |sl _ b off k c u hS hk hn hm xT hc Q9 hr=>
    have hb:=jA (P:=P) (isS:=YJ) (len:=es.length) (cap:=c) (l:=l) (h:=hh) (AI:=AI) (AH:=AH) Yd Yd a1 a2 a3 hn;have bU:((es.drop l.toNat).take (hh.toNat-l.toNat)).length=hh.toNat-l.toNat:=by
     grind
    refine⟨_,.slice (if c=l.toNat then YH ⟨b,off,YI⟩else YH ((⟨b,off,YI⟩:Addr).add (l.toNat*P.cellsOf e))) (hh.toNat-l.toNat) (c-l.toNat),hK,λw'=>?_,?_⟩
    ·simp[Instr.sliceAt,Instr.slice,run_underlying hu,hb,run_sizeOf mZ,hs]
    ·rcases Nat.eq_zero_or_pos (hh.toNat-l.toNat)with h0|h0
     ·rw[h0];exact .c (.nil _ _)
     ·have iq:¬c=l.toNat:=X9
      rw[if_neg iq];have hek:k=P.cellsOf e:=by
       have hl:l.toNat<es.length:=X9;exact(xT _ _ (VU hl)).symm.trans (hlen _ (List.getElem_mem hl))
      have ea:(⟨b,off,YI⟩:Addr).add (l.toNat*P.cellsOf e)=⟨b,off+l.toNat*k,YI⟩:=by rw[hek];unfold Addr.add;simp
      have get:∀{i:Nat} {cs:List PV},((es.drop l.toNat).take (hh.toNat-l.toNat))[i]?=YH cs->es[l.toNat+i]?=YH cs:=by
       grind
      have key:=fg.sl (w:=w) (S:=E.S) ((es.drop l.toNat).take (hh.toNat-l.toNat)) b (off+l.toNat*k) k (c-l.toNat) (λi j=>u (l.toNat+i) j) hS hk X9 X9
       (λi cs hi=>xT _ cs (get hi)) (λi cs j p hi hj=>by
        grind) (λi cs j p hi hj=>Q9 _ cs j p (get hi) hj) (λi cs j p hi hj=>hr _ cs j p (get hi) hj)
      rw[bU]at key
      rw[ea];exact .c key
  grind
 ·rename_i e r hu
  obtain⟨mb,hm,h⟩:=iv h
  split at h
  ·rename_i l hh e1 e2
   obtain⟨a1,a2,a3,gH,Oh,hK⟩:=h;have b1:=rj e1 h1 h1n;have b2:=rj e2 h2 h2n;obtain⟨i,mZ,hs⟩:=jW gH;obtain⟨B,hB,hbr,rfl⟩:=hx.tf hk hm;have Rf:=hbr.n;have va:=hbr.nc;have zl:∃A n c,B.sv=.slice A n c/\n=mb.es.length/\n<=c/\c<=maxLen/\(0<n->B.z=YK/\A=YH ⟨B.b,0,YI⟩)/\(B.z=YK->A=YH ⟨B.b,0,YI⟩/\c=B.c):=by
    cases hz:B.z with
    |true=>exact⟨YI,0,0,by simp[qm.sv,hz],by rw[hbr.nil hz];rfl,X9,X9,X9,λh=>nomatch h⟩
    |false=>exact⟨_,_,_,by simp[qm.sv,hz],Rf,va,hbr.cm,λ_=>⟨rfl,rfl⟩,λ_=>⟨rfl,rfl⟩⟩
   obtain⟨A,n,c,On,hn,Zf5,Ef,hA,hA0⟩:=zl;rw[On];have hb:=jA (P:=P) (isS:=YJ) (len:=n) (cap:=c) (l:=l) (h:=hh) (AI:=AI) (AH:=AH) Yd Yd a1 a2 X9 Zf5;refine⟨_,_,hK,λw'=>rX hu mZ hs (hb w'),.ss _ _ _ _ (l6 hk hm) rfl λB' nB=>?_⟩
   rw[hB]at nB;cases nB;refine⟨⟨_,_,rfl,X9,X9,λbU=>?_⟩,λIk hz=>by
    obtain⟨rfl,rfl⟩:=hA0 hz;exact⟨_,by rw[Ik,XK,Nat.sub_zero];split<;>rfl⟩⟩
   obtain⟨hz,hA'⟩:=hA X9;refine⟨hz,?_,X9,X9⟩;rw[if_neg X9];have:(⟨B.b,0,YI⟩:Addr).add (l.toNat*P.cellsOf e)=⟨B.b,l.toNat*B.k,YI⟩:=by rw[hbr.k];unfold Addr.add;grind
   grind
  grind
 ·rename_i e r a b hu
  obtain⟨mb,hm,h⟩:=iv h
  split at h
  ·rename_i l hh e1 e2
   obtain⟨a1,a2,a3,gH,Oh,hK⟩:=h;have b1:=rj e1 h1 h1n;have b2:=rj e2 h2 h2n;obtain⟨i,mZ,hs⟩:=jW gH;have hx0:a=0->∃B,E.β r=YH B/\(B.z=YK->x=.slice (YH ⟨B.b,0,YI⟩) b B.c):=λh0=>by
    subst h0;obtain⟨B,hB,_,_,h,_⟩:=hx.Ng hk hm
    grind
   obtain⟨B,hB,hbr,A,c,rfl,B8,hbB,hA⟩:=hx.zH hk hm;have UU:a=0->B.z=YK->A=YH ⟨B.b,0,YI⟩/\c=B.c:=λh0 hz=>by
    grind
   rcases Wv a b with bU|yM
   ·obtain⟨hz,rfl,Ax,GN⟩:=hA bU
    have hb:=jA (P:=P) (isS:=YJ) (len:=b-a) (cap:=c) (l:=l) (h:=hh) (AI:=AI) (AH:=AH) Yd Yd a1 a2 a3 Ax;refine⟨_,_,hK,λw'=>rX hu mZ hs (hb w'),.ss _ _ _ _ (l6 hk hm) rfl λB' nB=>?_⟩
    rw[hB]at nB;cases nB;refine⟨⟨_,_,by congr 1;omega,X9,X9,λZb4=>?_⟩,λIk hz=>by
     obtain⟨e1,rfl⟩:=UU X9 hz;have e0:l.toNat=0:=X9;exact⟨_,by rw[e0,XK,Nat.sub_zero,e1];split<;>rfl⟩⟩
    refine⟨hz,?_,X9,X9⟩;rw[if_neg X9];have:(⟨B.b,a*B.k,YI⟩:Addr).add (l.toNat*P.cellsOf e)=⟨B.b,(a+l.toNat)*B.k,YI⟩:=by
     rw[hbr.k,Oh,Xf];unfold Addr.add;simp
    grind
   ·have Ik:l=0:=X9
    have hh0:hh=0:=X9;subst Ik hh0;have hba:b-a=0:=X9;rw[hba];have hb:=jA (P:=P) (isS:=YJ) (len:=0) (cap:=c) (l:=0) (h:=0) (AI:=AI) (AH:=AH) Yd Yd X9 X9 X9 (Wu _);refine⟨_,_,hK,λw'=>rX hu mZ hs (hb w'),.ss _ _ _ _ (l6 hk hm) rfl λB' nB=>?_⟩
    rw[hB]at nB;cases nB;exact⟨⟨_,_,by congr 1;simp,X9,X9,λZb4=>X9⟩,λIk hz=>by
     obtain⟨rfl,rfl⟩:=UU X9 hz;exact⟨_,by simp only[Int.toNat_zero,XK,Nat.sub_zero];split<;>rfl⟩⟩
  grind
 ·rename_i e hu
  split at h
  ·rename_i l hh e1 e2
   obtain⟨a1,a2,a3,gH,hK⟩:=h;have b1:=rj e1 h1 h1n;have b2:=rj e2 h2 h2n;obtain⟨i,mZ,hs⟩:=jW gH;obtain⟨rfl,_⟩:=hx.gW;have hh0:hh=0:=X9;have hb:=jA (P:=P) (isS:=YJ) (len:=0) (cap:=0) (l:=0) (h:=0) (AI:=AI) (AH:=AH) Yd Yd X9 X9 X9 (Wu _);exact⟨_,_,hK,λw'=>rX hu mZ hs (hb w'),.c (.nil _ _)⟩
  grind
 grind
def DF(m:Mem)(x:PV)(K:PV->Prop):Prop:=
 match x with
 |.be l i o=>live m l λ_=>K (.be l i o)
 |.rp cs=>K (.rp cs)
 |_=>False
def kJ(P:Program)(m:Mem)(S:TypeId)(x:PV)(f:Nat)(K:PV->Prop):Prop:=
 match P.underlying S with
 |some (.struct fs)=>match fs[f]? with
  |some fd=>0<P.cellsOf fd.type/\match x with
   |.be l i o=>live m l λ_=>K (.be l i (o+fd.offset))
   |.rp cs=>K (.rp (cs.drop fd.offset))
   |_=>False
  |none=>False
 |_=>False
theorem zz(hk:Ok w0 O E w m){S:TypeId}{p:PV}{f:Nat}(hx:dE w E p x){K:PV->Prop}(h:kJ P m S p f K):
 ∃r v,K r/\(∀w',(Instr.fieldAt S x f).run P w'=.ok v w')/\dE w E r v:=by
 unfold kJ at h
 split at h
 ·rename_i fs hu
  split at h
  ·rename_i fd hf
   obtain⟨gH,h⟩:=h;obtain⟨i,hi,hs⟩:=jW gH;have iq:¬i.size=0:=X9;have run:∀b o w',(Instr.fieldAt S (.pointer (YH ⟨b,o,YI⟩)) f).run P w'=.ok (.pointer (YH ⟨b,o+fd.offset,YI⟩)) w':=by
    intro b o w';have ea:(⟨b,o,YI⟩:Addr).add fd.offset=⟨b,o+fd.offset,YI⟩:=by unfold Addr.add;simp
    simp[Instr.fieldAt,run_underlying hu,hf,Instr.sureAddr,fieldPlace,run_sizeOf hi,iq,ea]
   split at h
   ·obtain⟨mb,hm,hK⟩:=iv h
    obtain⟨B,hB,hb,hz,rfl⟩:=hx.Br hk hm;exact⟨_,_,hK,run _ _,.be _ _ _ _ (l6 hk hm) rfl λB' nB=>by grind⟩
   ·cases hx.LM with
    |rp _ b off u hS hc h1 hr=>
     refine⟨_,_,h,run _ _,.c (.rp _ b (off+fd.offset) (λj=>u (fd.offset+j)) hS (λj p hj=>?_) (λj p hj=>?_) λj p hj=>?_)⟩
     all_goals grind
   grind
  grind
 grind
def vp(P:Program)(S:TypeId)(x:PV)(f:Nat)(K:PV->Prop):Prop:=
 match P.underlying S with
 |some (.struct fs)=>match fs[f]?,x with
  |some fd,.ag cs=>rQ P fd.type (YH (cs.drop fd.offset)) K
  |_,_=>False
 |_=>False
theorem Gb{S:TypeId}{p:PV}{f:Nat}(hx:dE w E p x){K:PV->Prop}(h:vp P S p f K):
 ∃r v,K r/\(∀w',(Instr.field S x f).run P w'=.ok v w')/\dE w E r v:=by
 unfold vp at h
 split at h
 ·rename_i fs hu
  split at h
  ·rename_i fd cs hf
   obtain⟨vs,rfl,hl,h1,hr⟩:=hx.qq;obtain⟨r,v,hK,kh,tb⟩:=Lc h hl h1 hr;exact⟨r,v,hK,λw'=>by simp[Instr.field,run_underlying hu,hf,asAgg,kh],tb⟩
  grind
 grind
def cL(P:Program)(m:Mem)(T:TypeId)(x i:PV)(K:PV->Prop):Prop:=
 match P.underlying T,i with
 |some (.slice e),.v (.int _ n)=>match x with
  |.sl es=>0<=n/\n<es.length/\0<P.cellsOf e/\(es.getD n.toNat []).length=P.cellsOf e/\K (.rp (es.getD n.toNat []))
  |.ms l=>live m l λmb=>0<=n/\n<mb.es.length/\mb.k=P.cellsOf e/\K (.be l n.toNat 0)
  |.ss l a b=>live m l λmb=>0<=n/\n<(b-a:Nat)/\mb.k=P.cellsOf e/\K (.be l (a+n.toNat) 0)
  |_=>False
 |_,_=>False
theorem zB(hk:Ok w0 O E w m){p q:PV}(hx:dE w E p x)(hy:dE w E q y){K:PV->Prop}(h:cL P m T p q K):
 ∃r v,K r/\(∀w',(Instr.indexAt T x y).run P w'=.ok v w')/\dE w E r v:=by
 unfold cL at h
 split at h
 ·rename_i e kk n hu
  obtain⟨rfl,_⟩:=hy.gW
  split at h
  ·rename_i es
   obtain⟨a1,a2,gH,hlen,hK⟩:=h;obtain⟨i,hi,hs⟩:=jW gH;have yM:es[n.toNat]?=YH (es.getD n.toNat []):=by simp_all
   cases hx.vB with
   |nil A c=>grind
   |sl _ b off k c u hS hkp va hm xT hc h1 hr=>
    have hek:k=P.cellsOf e:=(xT _ _ yM).symm.trans hlen;have ea:(⟨b,off,YI⟩:Addr).add (n.toNat*P.cellsOf e)=⟨b,off+n.toNat*k,YI⟩:=by rw[hek];unfold Addr.add;simp
    refine⟨_,.pointer (YH ⟨b,off+n.toNat*k,YI⟩),hK,λw'=>?_,.c (.rp _ b (off+n.toNat*k) (λj=>u n.toNat j) hS (λj p hj=>hc _ _ j p yM hj) (λj p hj=>h1 _ _ j p yM hj) λj p hj=>hr _ _ j p yM hj)⟩
    simp[Instr.indexAt,asIntOf,run_underlying hu,a1,a2,run_sizeOf hi,hs,ea]
  ·obtain⟨mb,hm,a1,a2,Oh,hK⟩:=iv h
   obtain⟨B,hB,hb,rfl⟩:=hx.tf hk hm;have hz:=hb.ZaZ X9;have gH:0<P.cellsOf e:=by rw[<-Oh,<-hb.k];exact hb.pos
   obtain⟨i,hi,hs⟩:=jW gH;have ea:(⟨B.b,0,YI⟩:Addr).add (n.toNat*P.cellsOf e)=⟨B.b,n.toNat*B.k,YI⟩:=by rw[hb.k];unfold Addr.add;grind
   refine⟨_,.pointer (YH ⟨B.b,n.toNat*B.k,YI⟩),hK,λw'=>?_,.be _ _ _ _ (l6 hk hm) rfl λB' nB=>by grind⟩
   have a2':n<(B.n:Int):=by rw[hb.n];omega
   simp[qm.sv,hz,Instr.indexAt,asIntOf,run_underlying hu,a1,a2',run_sizeOf hi,hs,ea]
  ·rename_i l a b
   obtain⟨mb,hm,a1,a2,Oh,hK⟩:=iv h;obtain⟨B,hB,hb,A,c,rfl,B8,hbB,hA⟩:=hx.zH hk hm;obtain⟨hz,rfl,_,_⟩:=hA X9;have gH:0<P.cellsOf e:=by rw[<-Oh,<-hb.k];exact hb.pos
   obtain⟨i,hi,hs⟩:=jW gH;have ea:(⟨B.b,a*B.k,YI⟩:Addr).add (n.toNat*P.cellsOf e)=⟨B.b,(a+n.toNat)*B.k,YI⟩:=by rw[hb.k,Oh,Xf];unfold Addr.add;simp
   refine⟨_,.pointer (YH ⟨B.b,(a+n.toNat)*B.k,YI⟩),hK,λw'=>?_,.be _ _ _ _ (l6 hk hm) rfl λB' nB=>by grind⟩
   simp[Instr.indexAt,asIntOf,run_underlying hu,a1,a2,run_sizeOf hi,hs,ea]
  grind
 grind
def yX(s:ByteArray)(i:Nat):Int:=((s[i]?).map (·.toNat)).getD 0
def sF(P:Program)(T:TypeId)(x i:PV)(K:PV->Prop):Prop:=
 match P.underlying T,x,i with
 |some .string,.v (.string s),.v (.int _ n)=>0<=n/\n<s.size/\K (.v (.int .u8 (yX s n.toNat)))
 |_,_,_=>False
theorem Gc{p q:PV}(hx:dE w E p x)(hy:dE w E q y){K:PV->Prop}(h:sF P T p q K):
 ∃r v,K r/\(∀w',(Instr.index T x y).run P w'=.ok v w')/\dE w E r v:=by
 unfold sF at h
 split at h
 ·rename_i s kk n hu
  obtain⟨rfl,_⟩:=hx.gW;obtain⟨rfl,_⟩:=hy.gW;obtain⟨a1,a2,hK⟩:=h;have hn:n.toNat<s.size:=X9;refine⟨_,.int .u8 (yX s n.toNat),hK,λw'=>?_,.c (.v _ rfl)⟩
  simp[Instr.index,asIntOf,run_underlying hu,a1,yX,hn]
 grind
def I3(i:Nat)(x:PV)(K:PV->Prop):Prop:=
 match x with
 |.tu vs=>match vs[i]? with
  |some p=>K p
  |none=>False
 |_=>False
theorem K9{p:PV}(hx:dE w E p x){K:PV->Prop}(h:I3 i p K):∃r v,K r/\(∀w',(Instr.extract x i).run P w'=.ok v w')/\dE w E r v:=by
 unfold I3 at h
 split at h
 ·split at h
  ·rename_i q hq
   obtain⟨us,rfl,hl,hr⟩:=hx.xo;have hi:i<us.size:=by grind
   exact⟨q,us[i],h,λw'=>by simp[Instr.extract,V8 hi],hr i q _ hq (V8 hi)⟩
  grind
 grind
def wB(P:Program)(m:Mem)(T:TypeId)(x:PV)(K:PV->Prop):Prop:=
 match P.underlying T,x with
 |some .string,.v (.string s)=>K (.v (YM YN s.size))
 |some (.slice _),.v (.slice YI n _)=>K (.v (YM YN n))
 |some (.slice _),.sl es=>K (.v (YM YN es.length))
 |some (.slice _),.ms l=>live m l λmb=>K (.v (YM YN mb.es.length))
 |some (.slice _),.ss l a b=>live m l λ_=>K (.v (YM YN (b-a:Nat)))
 |_,_=>False
theorem Lb(hk:Ok w0 O E w m){p:PV}(hx:dE w E p x){K:PV->Prop}(h:wB P m T p K):∃r v,K r/\(∀w',(Builtin.len_ #[T] ty #[x]).run P w'=.ok v w')/\dE w E r v:=by
 unfold wB at h
 split at h
 ·rename_i s hu
  obtain⟨rfl,_⟩:=hx.gW;exact⟨_,_,h,λw'=>by simp[Builtin.len_,run_underlying hu,goInt],.c (.v _ rfl)⟩
 ·rename_i e n c hu
  obtain⟨rfl,_⟩:=hx.gW;exact⟨_,_,h,λw'=>by simp[Builtin.len_,run_underlying hu,goInt],.c (.v _ rfl)⟩
 ·rename_i e es hu
  cases hx.vB with
  |nil A c=>exact⟨_,_,h,λw'=>by simp[Builtin.len_,run_underlying hu,goInt],.c (.v _ rfl)⟩
  |sl=>exact⟨_,_,h,λw'=>by simp[Builtin.len_,run_underlying hu,goInt],.c (.v _ rfl)⟩
 ·rename_i e l hu
  obtain⟨mb,hm,hK⟩:=iv h;obtain⟨B,hB,hb,rfl⟩:=hx.tf hk hm;refine⟨_,_,hK,λw'=>?_,.c (.v _ rfl)⟩
  cases hz:B.z with
  |true=>simp[qm.sv,hz,Builtin.len_,run_underlying hu,goInt,hb.nil hz]
  |false=>simp[qm.sv,hz,Builtin.len_,run_underlying hu,goInt,hb.n]
 ·rename_i e l a b hu
  obtain⟨mb,hm,hK⟩:=iv h;obtain⟨B,hB,hb,A,c,rfl,_,_,_⟩:=hx.zH hk hm;exact⟨_,_,hK,λw'=>by simp[Builtin.len_,run_underlying hu,goInt],.c (.v _ rfl)⟩
 grind
end
def ph(w:World)(E:Env)(cs:List PV)(a:Array Value):Prop:=
 a.size=cs.length/\∀(j:Nat) (p:PV),cs[j]?=YH p->∃x,a[j]?=YH x/\x.oneCell'=YJ/\dE w E p x
def xm(cs:List PV)(off:Nat)(qs:List PV):List PV:=cs.take off++qs++cs.drop (off+qs.length)
def wE(place:Nat->Option (Nat×Nat)):List PV->List (Nat×PV)->Option (List PV)
 |cs,[]=>YH cs
 |cs,(i,p)::rest=>match place i,pc p with
  |some (off,size),YH qs=>if qs.length=size/\off+qs.length<=cs.length then wE place (xm cs off qs) rest else YI
  |_,_=>YI
section
variable {w:World} {O:Nat->Prop} {E:Env} {w0:World} {m:Mem} {P:Program}
theorem vA{cs qs:List PV}(h:off+qs.length<=cs.length):(xm cs off qs).length=cs.length:=by
 simp[xm];omega
theorem CX{cs qs:List PV}(h:off+qs.length<=cs.length)(j:Nat):(xm cs off qs)[j]?=if off<=j/\j<off+qs.length then qs[j-off]? else cs[j]?:=by
 have hl:(cs.take off).length=off:=by grind
 unfold xm
 grind
theorem N6(qs:List Value):∀(i off:Nat) (a:Array Value),((qs.zipIdx i).foldl (λcs (c,j)=>cs.setIfInBounds (off+j) c) a).size=a.size/\
 ∀j,((qs.zipIdx i).foldl (λcs (c,j)=>cs.setIfInBounds (off+j) c) a)[j]?=if off+i<=j/\j<off+i+qs.length/\j<a.size then qs[j-(off+i)]? else a[j]?:=by
 induction qs with
 |nil=>intro i off a;exact⟨rfl,λj=>by simp;omega⟩
 |cons q qs ih=>
  intro i off a;simp;obtain⟨h1,h2⟩:=ih (i+1) off (a.setIfInBounds (off+i) q)
  grind
theorem BU{place:Nat->Option (Nat×Nat)}:∀(ps:List (Nat×PV)) (vs:List (Nat×Value)) (cs qu:List PV) (a:Array Value),ph w E cs a->wE place cs ps=YH qu->
 ps.length=vs.length->(∀(j i:Nat) (p:PV),ps[j]?=YH (i,p)->∃x,vs[j]?=YH (i,x)/\dE w E p x)->∃a',Instr.fill place a vs=YH a'/\ph w E qu a'
 | [],[],cs,qu,a,h,hf,_,_=>by
  simp only[wE,V4]at hf
  subst hf;exact⟨a,rfl,h⟩
 | [],_::_,_,_,_,_,_,hl,_=>by grind
 |_::_,[],_,_,_,_,_,hl,_=>by grind
 |(i,p)::ps,(i',x)::vs,cs,qu,a,h,hf,hl,hr=>by
  obtain⟨x',uJ,tb⟩:=hr 0 i p rfl;simp only[List.getElem?_cons_zero,V4,Prod.mk.injEq]at uJ
  obtain⟨rfl,rfl⟩:=uJ;simp only[wE]at hf
  split at hf
  ·rename_i off size qs hp hq
   simp only[WO]at hf
   obtain⟨⟨h1,h2⟩,hf⟩:=hf;obtain⟨c1,c2⟩:=Gh tb hq;have ZdU:¬((x.cells.size≠size ||off+x.cells.size > a.size)=YJ):=by
    rw[c1,h1,h.1];simp_all
   obtain⟨f1,f2⟩:=N6 x.cells.toList 0 off a;have e:x.cells.zipIdx.foldl (λcs (x:Value×Nat)=>cs.setIfInBounds (off+x.2) x.1) a=(x.cells.toList.zipIdx 0).foldl (λcs (c,j)=>cs.setIfInBounds (off+j) c) a:=by
    rw[<-Array.foldl_toList,Array.toList_zipIdx]
   have Zb7:ph w E (xm cs off qs) ((x.cells.toList.zipIdx 0).foldl (λcs (c,j)=>cs.setIfInBounds (off+j) c) a):=by
    refine⟨by rw[f1,h.1,vA h2],λj q hj=>?_⟩
    rw[CX h2]at hj
    rw[f2 j,Nat.add_zero]
    by_cases c:off<=j/\j<off+qs.length
    ·grind
    ·rw[if_neg c]at hj
     obtain⟨y,y1,y2,y3⟩:=h.2 j q hj
     grind
   obtain⟨a',e1,e2⟩:=BU ps vs _ qu _ Zb7 hf Yg λj i p hj=>by
    obtain⟨x,hx,hxr⟩:=hr (j+1) i p Yg
    grind
   refine⟨a',?_,e2⟩;simp only[Instr.fill,hp,ZdU,if_false,Bool.false_eq_true]
   simp_all
  simp_all
def zeroOf(P:Program)(t:TypeId):Option Value:=(P.info? t).bind (·.zero)
def pz(P:Program)(t:TypeId):Option (List PV):=(zeroOf P t).bind λz=>pc (VJ z)
theorem zD{cs:List PV}(h:pz P t=YH cs):∃i z,P.info? t=YH i/\i.zero=YH z/\ph w E cs z.cells:=by
 unfold pz zeroOf at h
 cases hi:P.info? t with
 |none=>simp_all
 |some i=>
  cases hz:i.zero with
  |none=>simp_all
  |some z=>
   simp[hi,hz]at h
   exact⟨i,z,rfl,hz,Gh (I9 z) h⟩
theorem CV{i:TypeInfo}{z:Value}(hi:P.info? t=YH i)(hz:i.zero=YH z)(w':World):(zeroValue t).run P w'=.ok z w':=by
 simp[zeroValue,typeInfo,hi,hz]
def vo(P:Program)(T:TypeId)(ps:List (Nat×PV))(K:PV->Prop):Prop:=
 match P.underlying T with
 |some (.struct fs)=>(∀fd∈fs.toList,0<P.cellsOf fd.type)/\match pz P T with
  |some zc=>match wE (λi=>(fs[i]?).map λfd=>(fd.offset,P.cellsOf fd.type)) zc ps with
   |some cs=>K (.ag cs)
   |none=>False
  |none=>False
 |_=>False
theorem ph.ag{cs:List PV}{a:Array Value}(h:ph w E cs a):dE w E (.ag cs) (.agg a):=by
 refine .ag cs a h.1 (λj x hx=>?_) λj p x hp hx=>?_
 ·have hj:j<cs.length:=by rw[<-h.1];grind
  obtain⟨y,h1,h2,_⟩:=h.2 j _ (VU hj)
  grind
 ·obtain⟨y,h1,_,h3⟩:=h.2 j p hp
  grind
theorem run_places{fs:Array Field}(h:∀fd∈fs.toList,0<P.cellsOf fd.type)(w':World):
 (fs.mapM fun(f:Field)=>(do pure (f.offset,<-sizeOf f.type):Sem (Nat×Nat))).run P w'=.ok (fs.map λfd=>(fd.offset,P.cellsOf fd.type)) w':=by
 rw[Array.mapM_eq_mapM_toList];have key:∀l:List Field,(∀fd∈l,0<P.cellsOf fd.type)->(l.mapM fun(f:Field)=>(do pure (f.offset,<-sizeOf f.type):Sem (Nat×Nat))).run P w'=.ok (l.map λfd=>(fd.offset,P.cellsOf fd.type)) w':=by
  intro l
  induction l with
  |nil=>simp
  |cons f l ih=>
   intro hl;obtain⟨i,hi,hs⟩:=jW (hl f Ye);have:=ih λfd hfd=>hl fd Yd
   simp only[List.mapM_cons,Sem.run_bind,run_sizeOf hi,Result.andThen_ok,Sem.run_pure,this,hs,List.map_cons]
 have k:=key fs.toList h;rw[Sem.run_map];refine(congrArg (λr=>Result.andThen r fun(a:List (Nat×Nat)) w'=>Result.ok a.toArray w') k).trans ?_
 show Result.ok _ _=_
 congr 1
 grind
theorem F8{ps:List (Nat×PV)}{vs:Array (Nat×Value)}(hl:ps.length=vs.size)(hr:∀(j i:Nat) (p:PV),ps[j]?=YH (i,p)->∃x,vs[j]?=YH (i,x)/\dE w E p x){K:PV->Prop}(h:vo P T ps K):
 ∃r v,K r/\(∀w',(Instr.build T vs).run P w'=.ok v w')/\dE w E r v:=by
 unfold vo at h
 split at h
 ·rename_i fs hu
  obtain⟨gH,h⟩:=h
  split at h
  ·rename_i zc hz
   split at h
   ·rename_i cs hf
    obtain⟨i,z,hi,uM,hc⟩:=zD (w:=w) (E:=E) hz;obtain⟨a',e1,e2⟩:=BU ps vs.toList zc cs z.cells hc hf X9 λj i p hj=>by simp_all
    refine⟨_,.agg a',h,λw'=>?_,e2.ag⟩
    simp only[Instr.build,Sem.run_bind,CV hi uM,run_underlying hu,Result.andThen_ok,run_places gH w'];simp[e1]
   simp_all
  simp_all
 simp_all
end
section
variable {w:World} {O:Nat->Prop} {E:Env} {w0:World} {m:Mem} {P:Program}
def uS(P:Program)(w0:World)(O:Nat->Prop)(E:Env)(w:World)(ν:Nat)(s:Sem Value)(p:PV)(m':Mem):Prop:=
 ∃x w' E',s.run P w=.ok x w'/\Ok w0 O E' w' m'/\Ext w w' E E'/\dE w' E' p x/\∀l,E'.used l->E.used l\/l=ν
theorem Fp{cs:List PV}{a:Array Value}(h:ph w E cs a)(T:TK):∀(i:Nat) (ds:List PV) (j:Nat) (p:PV),(MB.mk T cs.length [cs]).es[i]?=YH ds->ds[j]?=YH p->
 ∃x,a[i*cs.length+j]?=YH x/\x.oneCell'=YJ/\dE w E p x:=by
 intro i ds j p hi hj
 cases i with
 |zero=>
  obtain rfl:cs=ds:=by grind
  simpa using h.2 j p hj
 |succ i=>grind
theorem zg(hk:Ok w0 O E w m)(vT:¬E.used ν){mb:MB}{a:Array Value}(hkd:mb.T.kd=YI)(gH:0<mb.k)(hn:mb.es.length<=c)(hc:c<=maxLen)(xT:∀(i:Nat) (cs:List PV),mb.es[i]?=YH cs->cs.length=mb.k)(hs:a.size=c*mb.k)
 (hr:∀(i:Nat) (cs:List PV) (j:Nat) (p:PV),mb.es[i]?=YH cs->cs[j]?=YH p->∃x,a[i*mb.k+j]?=YH x/\x.oneCell'=YJ/\dE w E p x):
 ∃E',Ok w0 O E' (w.alloc (.cells a mb.T.t (0,0))) (oG m ν mb)/\Ext w (w.alloc (.cells a mb.T.t (0,0))) E E'/\
  dE (w.alloc (.cells a mb.T.t (0,0))) E' (.ms ν) (.slice (YH ⟨w.heap.size,0,YI⟩) mb.es.length c)/\
  dE (w.alloc (.cells a mb.T.t (0,0))) E' (.be ν 0 0) (.pointer (YH ⟨w.heap.size,0,YI⟩))/\∀l,E'.used l->E.used l\/l=ν:=by
 have wu:(w.alloc (.cells a mb.T.t (0,0))).heap.size=w.heap.size+1:=by simp
 obtain⟨h1,h2⟩:=hk.new (w':=w.alloc (.cells a mb.T.t (0,0))) vT mb ⟨w.heap.size,c,mb.es.length,mb.k,mb.T.t,YK⟩ rfl rfl rfl X9 (λb hb=>heap_alloc_old _ _ hb) (λ_=>⟨VX _,by simp⟩)
  λhx=>⟨rfl,rfl,rfl,gH,hn,hc,xT,(λh=>by cases h),λ_=>⟨a,heap_alloc_new w _,hs,λi cs j p hi hj=>by
   obtain⟨x,x1,x2,x3⟩:=hr i cs j p hi hj;exact⟨x,x1,x2,x3.ext hx⟩⟩,λT hT=>by simp_all⟩
 refine⟨_,h1,h2,.ms _ _ (.inl rfl) rfl λB hB=>?_,.be _ _ _ _ (.inl rfl) rfl λB hB=>?_,λl hl=>hl.symm⟩
 ·have e:B=⟨w.heap.size,c,mb.es.length,mb.k,mb.T.t,YK⟩:=by simpa[Env.add,eq_comm]using hB
  subst e;rfl
 ·have e:B=⟨w.heap.size,c,mb.es.length,mb.k,mb.T.t,YK⟩:=by simpa[Env.add,eq_comm]using hB
  simp_all
def zx(ν:Nat)(m:Mem)(T:TypeId)(cs:Option (List PV))(K:PV->Mem->Prop):Prop:=
 match cs with
 |some (c::cs)=>K (.be ν 0 0) (oG m ν ⟨T,(c::cs).length,[c::cs]⟩)
 |_=>False
theorem Cx(hk:Ok w0 O E w m)(vT:¬E.used ν){cs:List PV}(hc:ph w E cs x.cells){K:PV->Mem->Prop}(h:zx ν m T (YH cs) K):∃p m',K p m'/\uS P w0 O E w ν (do pure (.pointer (YH (<-newVar T x)))) p m':=by
 unfold zx at h
 split at h
 ·rename_i c qu e
  obtain rfl:cs=c::qu:=by grind
  obtain⟨E',h1,h2,_,h4,h5⟩:=zg (mb:=⟨T,(c::qu).length,[c::qu]⟩) (c:=1) hk vT rfl Ye Ye Yo (λi ds hi=>by
   grind) (by rw[hc.1];simp) (Fp hc T)
  exact⟨_,_,h,.pointer (YH ⟨w.heap.size,0,YI⟩),_,E',by rfl,h1,h2,h4,h5⟩
 simp_all
theorem K8(hk:Ok w0 O E w m)(vT:¬E.used ν){p:PV}(hx:dE w E p x){K:PV->Mem->Prop}(h:zx ν m T (pc p) K):∃p m',K p m'/\uS P w0 O E w ν (Instr.box T x) p m':=by
 cases hp:pc p with
 |none=>rw[hp]at h;exact h.elim
 |some cs=>rw[hp]at h;exact Cx hk vT (Gh hx hp) h
theorem F6(hk:Ok w0 O E w m)(vT:¬E.used ν){K:PV->Mem->Prop}(h:zx ν m T (pz P T) K):∃p m',K p m'/\uS P w0 O E w ν (Instr.alloc T YJ (.tuple #[])) p m':=by
 cases hp:pz P T with
 |none=>rw[hp]at h;exact h.elim
 |some cs=>
  rw[hp]at h
  obtain⟨i,z,hi,hz,hc⟩:=zD (w:=w) (E:=E) hp;obtain⟨p,m',hK,x,w',E',kh,r⟩:=Cx (P:=P) hk vT hc h;refine⟨p,m',hK,x,w',E',?_,r⟩;simp[Instr.alloc,CV hi hz];exact kh
def wP(zc:List PV):Nat->List PV
 |0=>[]
 |n+1=>zc++wP zc n
def chunk(k:Nat):Nat->List PV->List (List PV)
 |0,_=>[]
 |n+1,cs=>cs.take k::chunk k n (cs.drop k)
theorem uF(zc:List PV)(n:Nat):(wP zc n).length=n*zc.length:=by
 induction n with
 |zero=>simp[wP]
 |succ n ih=>simp[wP,Xh];omega
theorem PO{zc:List PV}{p:PV}(h:(wP zc n)[j]?=YH p):zc[j % zc.length]?=YH p:=by
 induction n generalizing j with
 |zero=>simp[wP]at h
 |succ n ih=>
  simp only[wP]at h
  rcases Wv j zc.length with hj|hj
  ·rw[Wt hj]at h
   rwa[XQ hj]
  ·rw[WM hj]at h
   have:=ih h
   rwa[Nat.mod_eq_sub_mod hj]
theorem uf(k n:Nat)(cs:List PV):(chunk k n cs).length=n:=by
 induction n generalizing cs with
 |zero=>rfl
 |succ n ih=>simp[chunk,ih]
theorem DT{cs ds:List PV}(h:(chunk k n cs)[i]?=YH ds):ds=(cs.drop (i*k)).take k:=by
 induction n generalizing cs i with
 |zero=>simp[chunk]at h
 |succ n ih=>
  cases i with
  |zero=>simpa[chunk,eq_comm]using h
  |succ i=>
   have:=ih (i:=i) (by simpa[chunk]using h)
   rw[this,List.drop_drop,Xh,Xt]
theorem NK{cs:List PV}{a:Array Value}(hk:0<k)(h:ph w E cs a)(hl:cs.length=n*k):(∀(i:Nat) (ds:List PV),(chunk k n cs)[i]?=YH ds->ds.length=k)/\
 ∀(i:Nat) (ds:List PV) (j:Nat) (p:PV),(chunk k n cs)[i]?=YH ds->ds[j]?=YH p->∃x,a[i*k+j]?=YH x/\x.oneCell'=YJ/\dE w E p x:=by
 have bU:∀{i:Nat} {ds:List PV},(chunk k n cs)[i]?=YH ds->i<n:=λhi=>by
  have:=(VT.1 hi).1
  rwa[uf]at this
 refine⟨λi ds hi=>?_,λi ds j p hi hj=>?_⟩
 ·have u9:=bU hi
  rw[DT hi];have this:=Wa k u9
  grind
 ·rw[DT hi,List.getElem?_take]at hj
  split at hj
  ·rw[List.getElem?_drop]at hj
   exact h.2 _ p hj
  simp_all
def mU(P:Program)(ν:Nat)(m:Mem)(T:TypeId)(n:Nat)(ps:List (Nat×PV))(K:PV->Mem->Prop):Prop:=
 match P.underlying T with
 |some (.slice e)=>match pz P e with
  |some zc=>0<P.cellsOf e/\zc.length=P.cellsOf e/\n*P.cellsOf e<=16777216/\match wE (λi=>YH (i*P.cellsOf e,P.cellsOf e)) (wP zc n) ps with
   |some cs=>K (.ms ν) (oG m ν ⟨e,P.cellsOf e,chunk (P.cellsOf e) n cs⟩)
   |none=>False
  |none=>False
 |_=>False
theorem xQ{place:Nat->Option (Nat×Nat)}:∀(ps:List (Nat×PV)) (cs qu:List PV),wE place cs ps=YH qu->qu.length=cs.length
 | [],cs,qu,h=>by simp only[wE,V4]at h;rw[h]
 |(i,p)::ps,cs,qu,h=>by
  simp only[wE]at h
  split at h
  ·simp at h
   rw[xQ ps _ _ h.2,vA h.1.2]
  grind
theorem yq(hk:Ok w0 O E w m)(vT:¬E.used ν){ps:List (Nat×PV)}{vs:Array (Nat×Value)}(hl:ps.length=vs.size)
 (hr:∀(j i:Nat) (p:PV),ps[j]?=YH (i,p)->∃x,vs[j]?=YH (i,x)/\dE w E p x) {K:PV->Mem->Prop} (h:mU P ν m T n ps K):∃p m',K p m'/\uS P w0 O E w ν (Instr.buildSlice T n vs) p m':=by
 unfold mU at h
 split at h
 ·rename_i e hu
  split at h
  ·rename_i zc hz
   obtain⟨gH,yQ,Ca,h⟩:=h
   split at h
   ·rename_i cs hf
    obtain⟨i,z,hi,uM,hc⟩:=zD (w:=w) (E:=E) hz;have PU:i.size=P.cellsOf e:=by simp[Program.cellsOf,hi]
    have h0:ph w E (wP zc n) ((XO (n*i.size)).map (z.cells[· % z.cells.size]!)):=by
     refine⟨by rw[uF,yQ,PU];simp,λj p hj=>?_⟩
     have Dw:=(VT.1 hj).1;rw[uF,yQ]at Dw
     obtain⟨x,x1,x2,x3⟩:=hc.2 _ p (PO hj);rw[<-hc.1]at x1
     grind
    obtain⟨a',e1,e2⟩:=BU ps vs.toList _ cs _ h0 hf X9 λj i p hj=>by simp_all
    have tD:cs.length=n*P.cellsOf e:=by rw[xQ _ _ _ hf,uF,yQ]
    obtain⟨r1,r2⟩:=NK gH e2 tD;obtain⟨E',h1,h2,h3,_,h5⟩:=zg (mb:=⟨e,P.cellsOf e,chunk (P.cellsOf e) n cs⟩) (c:=n) hk vT rfl gH (by simp[uf]) (by
     unfold maxLen;have:n*1<=n*P.cellsOf e:=Nat.mul_le_mul_left n gH;omega) r1 (by rw[e2.1,tD]) r2
    simp only[uf]at h3
    refine⟨_,_,h,_,_,E',?_,h1,h2,h3,h5⟩;have e3:Instr.fill (λj=>YH (j*i.size,i.size)) ((XO (n*i.size)).map (z.cells[· % z.cells.size]!)) vs.toList=YH a':=by simp_all
    have hnb:¬n*i.size > 2 ^ 24:=by simp_all
    by_cases hn0:n*i.size=0
    ·have e4:(XO (n*i.size)).map (z.cells[· % z.cells.size]!)=(XO (n*i.size)).map ((#[]:Array Value)[· % (#[]:Array Value).size]!):=by
      grind
     rw[e4]at e3
     simp only[Instr.buildSlice,Sem.run_bind,run_underlying hu,Result.andThen_ok,run_sizeOf hi,hnb,if_false,Sem.run_ite,hn0,if_true,Sem.run_pure];rw[hn0]at e3
     simp only[e3];rfl
    ·simp only[Instr.buildSlice,Sem.run_bind,run_underlying hu,Result.andThen_ok,run_sizeOf hi,hnb,if_false,Sem.run_ite,hn0,Sem.run_pure,CV hi uM,e3]
     rfl
   simp_all
  simp_all
 simp_all
end
section
variable {w:World} {O:Nat->Prop} {E:Env} {w0:World} {m:Mem} {P:Program}
def vt(P:Program)(ν:Nat)(m:Mem)(T:TypeId)(l c:PV)(K:PV->Mem->Prop):Prop:=
 match P.underlying T,l,c with
 |some (.slice e),.v (YM YN n),.v (YM YN n')=>match pz P e with
  |some zc=>n=n'/\0<=n/\0<P.cellsOf e/\zc.length=P.cellsOf e/\n<=1099511627776/\P.bytesOf e*n<=140737488355328/\K (.ms ν) (oG m ν ⟨e,P.cellsOf e,V7 n.toNat zc⟩)
  |none=>False
 |_,_,_=>False
theorem I4(hk:Ok w0 O E w m)(vT:¬E.used ν){p q:PV}(hx:dE w E p x)(hy:dE w E q y){K:PV->Mem->Prop}(h:vt P ν m T p q K):∃p m',K p m'/\uS P w0 O E w ν (Instr.makeSlice T x y) p m':=by
 unfold vt at h
 split at h
 ·rename_i e n n' hu
  obtain⟨rfl,_⟩:=hx.gW;obtain⟨rfl,_⟩:=hy.gW
  split at h
  ·rename_i zc hz
   obtain⟨rfl,h0,gH,yQ,Ca,qw,hK⟩:=h;obtain⟨i,z,hi,uM,hc⟩:=zD (w:=w) (E:=E) hz;have PU:i.size=P.cellsOf e:=by simp[Program.cellsOf,hi]
   have hib:i.bytes=P.bytesOf e:=by simp[Program.bytesOf,hi]
   obtain⟨k,rfl⟩:∃k:Nat,n=(k:Int):=⟨n.toNat,X9⟩;have hkb:i.bytes*k<=281474976710656:=by
    grind
   have kh:=run_mk T e i z hu hi uM k hkb X9 w;have FG:∀(i:Nat) (cs:List PV),(V7 k zc)[i]?=YH cs->i<k/\cs=zc:=by
    grind
   obtain⟨E',h1,h2,h3,_,h5⟩:=zg (mb:=⟨e,P.cellsOf e,V7 k zc⟩) (c:=k) (a:=madeCells z.cells (k*i.size)) hk vT rfl gH Ye Yo
    (λi cs hi=>by grind) (by rw[PU];simp[madeCells]) (λi' cs j p mZ hj=>by
     obtain⟨bU,rfl⟩:=FG i' cs mZ;obtain⟨x,x1,x2,x3⟩:=hc.2 j p hj;refine⟨x,?_,x2,x3⟩;have Dw:j<P.cellsOf e:=by grind
     have hzs:z.cells.size=P.cellsOf e:=by rw[hc.1,yQ]
     have u9:i'*P.cellsOf e+j<k*i.size:=by
      rw[PU];have:(i'+1)*P.cellsOf e<=k*P.cellsOf e:=Wa _ bU
      grind
     have Zea:(i'*P.cellsOf e+j) % z.cells.size=j:=by rw[hzs,Xt,XX,XQ Dw]
     simp only[madeCells]
     simp_all)
   simp only[List.length_replicate]at h3
   have hK':K (.ms ν) (oG m ν ⟨e,P.cellsOf e,V7 k zc⟩):=by simp_all
   exact⟨_,_,hK',_,_,E',kh,h1,h2,h3,h5⟩
  simp_all
 simp_all
def vu(P:Program)(m:Mem)(T:TypeId)(a x:PV)(K:PV->Mem->Prop):Prop:=
 match a,pc x with
 |.be l i o,YH qs=>live m l λmb=>match mb.es[i]? with
  |some cs=>0<qs.length/\qs.length=P.cellsOf T/\o+qs.length<=cs.length/\K .ud (m.set l (YH ⟨mb.T.st qs,mb.k,mb.es.set i (xm cs o qs)⟩))
  |none=>False
 |_,_=>False
theorem Nb(l vs:List Value)(O:Nat)(h:O+vs.length<=l.length)(j:Nat):(l.take O++vs++l.drop (O+vs.length))[j]?=if O<=j/\j<O+vs.length then vs[j-O]? else l[j]?:=by
 have hl:(l.take O).length=O:=by grind
 grind
theorem Gf(hk:Ok w0 O E w m){p q:PV}(hx:dE w E p x)(hy:dE w E q y){K:PV->Mem->Prop}(h:vu P m T p q K):
 ∃m',K .ud m'/\∃w',(Instr.storeAt T x y).run P w=.ok () w'/\Ok w0 O E w' m'/\Ext w w' E E:=by
 unfold vu at h
 split at h
 ·rename_i l i o qs hq
  obtain⟨mb,hm,h⟩:=iv h
  split at h
  ·rename_i cs sL
   obtain⟨gH,hT,hle,hK⟩:=h;obtain⟨B,hB,hb,hz,rfl⟩:=hx.Br hk hm;obtain⟨c1,c2⟩:=Gh hy hq;obtain⟨ti,hti,hts⟩:=jW (P:=P) (t:=T) X9;obtain⟨cells,m1,m2,m3⟩:=hb.mem hz;have tD:=hb.es i cs sL;have u9:i<B.n:=by rw[hb.n];grind
   have Rk:i*B.k+B.k<=B.c*B.k:=by
    have:(i+1)*B.k<=B.c*B.k:=Wa _ (Wq u9 hb.nc)
    grind
   have wW:∀v∈y.cells.toList,v.oneCell'=true:=by
    intro v hv;obtain⟨j,hj⟩:=WD hv;have Dw:j<qs.length:=by
     grind
    obtain⟨z,z1,z2,_⟩:=c2 j _ (VU Dw)
    simp_all
   have uL:=run_storeCells_at P B.b (i*B.k+o) B.T y.cells.toList 0 cells w m1 Yd wW;refine⟨_,hK,w.setRow B.b (cells.toList.take (i*B.k+o+0)++y.cells.toList++cells.toList.drop (i*B.k+o+0+y.cells.toList.length)).toArray,?_,?_⟩
   ·have wu:¬y.cells.size≠ti.size:=X9
    simp only[Instr.storeAt,Instr.sureAddr,storeVar,Sem.run_bind,Sem.run_pure,Result.andThen_ok,run_sizeOf hti,wu,if_false];omega
   ·refine hk.put hB hz _ rfl rfl rfl Ye (λb iq=>setRow_other w B.b b _ iq) λuJ=>?_
    ·have Il:(xm cs o qs).length=cs.length:=vA hle
     refine⟨hb.k,by rw[hb.n];simp,by rw[hb.T];exact(TK.ZeS _ _).symm,hb.pos,hb.nc,hb.cm,λi' qu mZ=>?_,λh=>Yg,λ_=>⟨_,setRow_heap w B.b cells _ B.T _ m1,?_,λi' qu j pp mZ hj=>?_⟩,λT1 hT1 _ i' qu j es x mZ hj iq hc=>?_⟩
     ·simp only at mZ
      by_cases e:i'=i
      ·grind
      ·rw[Wx (Ne.symm e)]at mZ
       exact hb.es i' qu mZ
     ·grind
     ·simp only at mZ
      have h1:y.cells.toList.length=qs.length:=X9;have hsg:=λt=>Nb cells.toList y.cells.toList (i*B.k+o+0) Yd t
      by_cases e:i'=i
      ·subst e
       rw[WL (VT.1 sL).1]at mZ
       simp only[V4]at mZ
       subst mZ;rw[CX hle]at hj
       by_cases c:o<=j/\j<o+qs.length
       ·rw[if_pos c]at hj
        obtain⟨z,z1,z2,z3⟩:=c2 _ pp hj;refine⟨z,?_,z2,z3.ext uJ⟩;rw[Xu,hsg,if_pos X9]
        grind
       ·rw[if_neg c]at hj
        obtain⟨z,z1,z2,z3⟩:=m3 i' cs j pp sL hj;refine⟨z,?_,z2,z3.ext uJ⟩
        grind
      ·rw[Wx (Ne.symm e)]at mZ
       obtain⟨z,z1,z2,z3⟩:=m3 i' qu j pp mZ hj;refine⟨z,?_,z2,z3.ext uJ⟩;have Dw:j<B.k:=by rw[<-hb.es i' qu mZ];grind
       rw[Xu,hsg,if_neg ?_,W6]
       ·omega
       ·rw[h1]
        intro⟨g1,g2⟩
        rcases Nat.lt_or_gt_of_ne e with bU|Cc
        ·have:(i'+1)*B.k<=i*B.k:=Wa _ bU
         rw[Xh]at this
         omega
        ·have:(i+1)*B.k<=i'*B.k:=Wa _ Cc
         rw[Xh]at this
         omega
     ·simp only at mZ
      obtain⟨UM,hns⟩:=TK.Tj hT1;have h1:y.cells.toList.length=qs.length:=X9;have hsg:=λt=>Nb cells.toList y.cells.toList (i*B.k+o+0) (by simp only[Xd,c1,m2];omega) t
      rw[cell_of_row _ B.b _ _ B.T (0,0) (setRow_heap w B.b cells _ B.T _ m1),Xu,hsg]at hc
      have yR:∀Ug,mb.es[i']?=YH Ug->Ug[j]?=YH (.sl es)->¬(i*B.k+o+0<=i'*B.k+j/\i'*B.k+j<i*B.k+o+0+y.cells.toList.length)->GU (w.setRow B.b (cells.toList.take (i*B.k+o+0)++y.cells.toList++cells.toList.drop (i*B.k+o+0+y.cells.toList.length)).toArray) E T1 ((mb.T.st qs).t,i',j) es x:=by
       intro Ug g1 g2 g3;rw[if_neg g3,W6]at hc
       rw[TK.ZeS];exact(hb.key T1 UM hz i' Ug j es x g1 g2 iq (by rw[cell_of_row w B.b _ cells B.T (0,0) m1];exact hc)).ext uJ
      by_cases e:i'=i
      ·subst e
       rw[WL (VT.1 sL).1]at mZ
       simp only[V4]at mZ
       subst mZ;rw[CX hle]at hj
       by_cases c:o<=j/\j<o+qs.length
       ·rw[if_pos c]at hj
        exact absurd (F0 hns hj) iq
       ·rw[if_neg c]at hj
        exact yR cs sL hj (by rw[h1];omega)
      ·rw[Wx (Ne.symm e)]at mZ
       have Dw:j<B.k:=by rw[<-hb.es i' qu mZ];exact(VT.1 hj).1
       refine yR qu mZ hj ?_;rw[h1];intro⟨g1,g2⟩
       rcases Nat.lt_or_gt_of_ne e with bU|Cc
       ·have:(i'+1)*B.k<=i*B.k:=Wa _ bU
        rw[Xh]at this
        omega
       ·have:(i+1)*B.k<=i'*B.k:=Wa _ Cc
        rw[Xh]at this
        omega
  simp_all
 simp_all
end
section
variable {w:World} {O:Nat->Prop} {E:Env} {w0:World} {m:Mem} {P:Program}
def pH(m:Mem):PV->Option (List (List PV))
 |.sl es=>YH es
 |.v (.slice YI 0 _)=>YH []
 |.ms l=>match m[l]? with
  |some (YH mb)=>YH mb.es
  |_=>YI
 |.ss l a b=>match m[l]? with
  |some (YH mb)=>YH ((mb.es.drop a).take (b-a))
  |_=>YI
 |_=>YI
theorem Ks(h:j<k):(i*k+j) / k=i/\(i*k+j) % k=j:=by
 have hk:0<k:=X9;refine⟨?_,?_⟩
 ·rw[Xt,Nat.add_mul_div_right _ _ hk,Nat.div_eq_of_lt h,We]
 ·rw[Xt,XX,XQ h]
theorem I7{B:qm}{mb:MB}(hb:gm w E mb B)(hz:B.z=YK){a b:Nat}(B8:a<=b)(Rf:b<=B.n){es:List (List PV)}(xT:es=(mb.es.drop a).take (b-a))(xU:0<k)(hlen:∀(i:Nat) (cs:List PV),es[i]?=YH cs->cs.length=k):
 ∃news:List Value,news.length=es.length*k/\(∀j u,news[j]?=YH u->w.cell? ((⟨B.b,a*B.k,YI⟩:Addr).add j)=YH u)/\(∀u∈news,u.oneCell'=YJ)/\
  ∀(i:Nat) (cs:List PV) (j:Nat) (p:PV),es[i]?=YH cs->cs[j]?=YH p->∃u,news[i*k+j]?=YH u/\dE w E p u:=by
 obtain⟨cells,m1,m2,m3⟩:=hb.mem hz;have hn:=hb.n;have hel:es.length=b-a:=by grind
 have get:∀{i:Nat} {cs:List PV},es[i]?=YH cs->mb.es[a+i]?=YH cs:=by
  grind
 rcases Nat.eq_zero_or_pos es.length with h0|h0
 ·simp_all
 have e0:B.k=k:=(hb.es _ _ (get (VU h0))).symm.trans (hlen 0 _ (VU h0));rw[e0]at m2 m3
 have bU:∀t,t<es.length*k->∃x,cells[a*k+t]?=YH x/\x.oneCell'=true:=by
  intro t ht;have hq:t / k<es.length:=by rw[Xv xU];omega
  have Om:=Nat.mod_lt t xU;have e1:=VU hq;have e2:(es[t / k])[t % k]?=YH ((es[t / k])[t % k]' Yd):=VU _;have e3:t / k*k+t % k=t:=by rw[Nat.mul_comm];exact Nat.div_add_mod t k
  grind
 have Rk:a*k+es.length*k<=cells.size:=by
  rw[m2,<-Xf];exact Wa _ (by have:=hb.nc;omega)
 refine⟨(cells.toList.drop (a*k)).take (es.length*k),by grind,λj v hj=>?_,λv hv=>?_,λi cs j p hi hj=>?_⟩
 ·have ea:(⟨B.b,a*B.k,YI⟩:Addr).add j=⟨B.b,a*k+j,YI⟩:=by rw[e0];unfold Addr.add;simp
  rw[ea,cell_of_row w B.b _ cells B.T (0,0) m1]
  grind
 ·obtain⟨t,ht⟩:=WD hv
  grind
 ·have Dk:i<es.length:=(VT.1 hi).1
  have bU:i*k+j<es.length*k:=by
   have:(i+1)*k<=es.length*k:=Wa _ Dk
   grind
  grind
theorem Zax(hk:Ok w0 O E w m){p:PV}(hy:dE w E p y){es:List (List PV)}(hs:pH m p=YH es)(xU:0<k)(hlen:∀(i:Nat) (cs:List PV),es[i]?=YH cs->cs.length=k):
 (∃c,y=.slice YI 0 c/\es=[])\/∃(a:Addr) (c:Nat) (news:List Value),y=.slice (YH a) es.length c/\news.length=es.length*k/\(∀j u,news[j]?=YH u->w.cell? (a.add j)=YH u)/\(∀u∈news,u.oneCell'=YJ)/\
  ∀(i:Nat) (cs:List PV) (j:Nat) (p:PV),es[i]?=YH cs->cs[j]?=YH p->∃u,news[i*k+j]?=YH u/\dE w E p u:=by
 unfold pH at hs
 split at hs
 ·rename_i tl
  obtain rfl:tl=es:=by grind
  cases hy.vB with
  |nil A c=>
   cases A with
   |none=>simp
   |some a=>simp
  |sl _ b off k' c u hS hkp hn hm xT hc h1 hr=>
   refine .inr ⟨⟨b,off,YI⟩,c,(Wg (tl.length*k)).map λt=>u (t / k) (t % k),rfl,by simp,λj v hj=>?_,λv hv=>?_,λi cs j p hi hj=>?_⟩
   ·have Dw:j<tl.length*k:=by grind
    have hq:j / k<tl.length:=by rw[Xv xU];omega
    have Om:=Nat.mod_lt j xU;have e1:=VU hq;have e0:k'=k:=(xT _ _ e1).symm.trans (hlen _ _ e1);have e2:(tl[j / k])[j % k]?=YH ((tl[j / k])[j % k]' Yd):=VU _;have:=hc _ _ _ _ e1 e2;rw[e0]at this
    have e3:j / k*k+j % k=j:=by rw[Nat.mul_comm];exact Nat.div_add_mod j k
    have ea:(⟨b,off,YI⟩:Addr).add j=⟨b,off+j,YI⟩:=by unfold Addr.add;simp
    grind
   ·obtain⟨t,ht,rfl⟩:=List.mem_map.1 hv
    have Dw:t<tl.length*k:=by grind
    have hq:t / k<tl.length:=by rw[Xv xU];omega
    have Om:=Nat.mod_lt t xU;have e1:=VU hq;have e2:(tl[t / k])[t % k]?=YH ((tl[t / k])[t % k]' Yd):=VU _
    grind
   ·have Dw:j<k:=by grind
    have Dk:i<tl.length:=(VT.1 hi).1;obtain⟨d1,d2⟩:=Ks (i:=i) Dw;have bU:i*k+j<tl.length*k:=by
     have:(i+1)*k<=tl.length*k:=Wa _ Dk
     grind
    refine⟨u i j,?_,.c (hr i cs j p hi hj)⟩
    grind
 ·obtain rfl:es=[]:=by grind
  obtain⟨rfl,_⟩:=hy.gW;simp
 ·split at hs
  ·rename_i l mb hm
   obtain rfl:mb.es=es:=by grind
   obtain⟨B,hB,hb,rfl⟩:=hy.tf hk hm
   cases hz:B.z with
   |true=>exact .inl ⟨0,by simp[qm.sv,hz],hb.nil hz⟩
   |false=>
    obtain⟨news,n1,n2,n3,n4⟩:=I7 hb hz (a:=0) (b:=B.n) (Wu _) (VX _) (es:=mb.es) (by simp[hb.n]) xU hlen
    exact .inr ⟨_,B.c,news,by simp[qm.sv,hz,hb.n],n1,n2,n3,n4⟩
  grind
 ·split at hs
  ·rename_i l a b _ mb hm
   obtain rfl:(mb.es.drop a).take (b-a)=es:=by grind
   obtain⟨B,hB,hb,A,c,rfl,B8,Rf,hA⟩:=hy.zH hk hm;have hel:((mb.es.drop a).take (b-a)).length=b-a:=by rw[WR,W9,<-hb.n];omega
   rcases Wv a b with bU|yM
   ·obtain⟨hz,rfl,Ax,GN⟩:=hA bU
    obtain⟨news,n1,n2,n3,n4⟩:=I7 hb hz B8 Rf rfl xU hlen
    grind
   ·cases A with
    |none=>simp_all
    |some ad=>
     simp_all
  grind
 grind
def gf(P:Program)(ν:Nat)(m:Mem)(T:TypeId)(s x:PV)(K:PV->Mem->Prop):Prop:=
 match P.underlying T with
 |some (.slice e)=>match pz P e,pH m x with
  |some zc,YH es=>zc.length=P.cellsOf e/\0<P.cellsOf e/\(∀cs∈es,cs.length=P.cellsOf e)/\match s with
   |.ms l=>live m l λmb=>mb.T.t=e/\mb.k=P.cellsOf e/\mb.es.length+es.length<=1099511627776/\(mb.es.length+es.length)*P.bytesOf e<=140737488355328/\
    K (.ms ν) (oG (m.set l YI) ν ⟨mb.T.P0 es,P.cellsOf e,mb.es++es⟩)
   |.ss l a b=>a=0/\live m l λmb=>mb.T.t=e/\mb.k=P.cellsOf e/\(b<=mb.es.length/\¬mb.es=[])/\b+es.length<=1099511627776/\(b+es.length)*P.bytesOf e<=140737488355328/\
    K (.ms ν) (oG (m.set l YI) ν ⟨mb.T.P0 es,P.cellsOf e,mb.es.take b++es⟩)
   |.v (.slice YI 0 0)=>es.length<=1099511627776/\es.length*P.bytesOf e<=140737488355328/\K (.ms ν) (oG m ν ⟨e,P.cellsOf e,es⟩)
   |_=>False
  |_,_=>False
 |_=>False
theorem run_append_nil{t ty e:Nat}{i:TypeInfo}(ht:P.underlying t=YH (.slice e))(hi:P.info? e=YH i)(c:Nat):
 (Builtin.append_ #[t,t] ty #[.slice YI 0 0,.slice YI 0 c]).run P w=.ok (.slice YI 0 0) w:=by
 simp[Builtin.append_,run_underlying ht,sizeOf,typeInfo,hi,Builtin.lenOf,Builtin.firstCells]
theorem AF{t ty e:Nat}{i:TypeInfo}(ht:P.underlying t=YH (.slice e))(hi:P.info? e=YH i)(g:Addr)(n cap c:Nat)(va:n<=cap):
 (Builtin.append_ #[t,t] ty #[.slice (YH g) n cap,.slice YI 0 c]).run P w=.ok (.slice (YH g) n cap) w:=by
 simp[Builtin.append_,run_underlying ht,sizeOf,typeInfo,hi,Builtin.lenOf,Builtin.firstCells,va,storeCells]
theorem zS{es tl:List (List PV)}(xU:0<k){E':Env}{w':World}(hx:Ext w w' E E'){yR news:List Value}(ho:yR.length=es.length*k)(hn:news.length=tl.length*k)
 (h1:∀(i:Nat) (cs:List PV),es[i]?=YH cs->cs.length=k) (h2:∀(i:Nat) (cs:List PV),tl[i]?=YH cs->cs.length=k)
 (r1:∀(i:Nat) (cs:List PV) (j:Nat) (p:PV),es[i]?=YH cs->cs[j]?=YH p->∃u,yR[i*k+j]?=YH u/\u.oneCell'=YJ/\dE w E p u)
 (wW:∀u∈news,u.oneCell'=YJ)
 (r2:∀(i:Nat) (cs:List PV) (j:Nat) (p:PV),tl[i]?=YH cs->cs[j]?=YH p->∃u,news[i*k+j]?=YH u/\dE w E p u)
 {cur:Array Value} (Zhk:cur.toList.take ((es.length+tl.length)*k)=yR++news):
 (∀(i:Nat) (cs:List PV),(es++tl)[i]?=YH cs->cs.length=k)/\∀(i:Nat) (cs:List PV) (j:Nat) (p:PV),(es++tl)[i]?=YH cs->cs[j]?=YH p->∃x,cur[i*k+j]?=YH x/\x.oneCell'=YJ/\dE w' E' p x:=by
 have hlen:∀(i:Nat) (cs:List PV),(es++tl)[i]?=YH cs->cs.length=k:=by
  grind
 refine⟨hlen,λi cs j p hi hj=>?_⟩
 have Dk:i<es.length+tl.length:=by grind
 have u9:i*k+j<(es.length+tl.length)*k:=by
  have:(i+1)*k<=(es.length+tl.length)*k:=Wa _ Dk
  grind
 have Ee:cur[i*k+j]?=(yR++news)[i*k+j]?:=by grind
 rw[Ee]
 rcases Wv i es.length with h|h
 ·rw[Wt h]at hi
  obtain⟨u,u1,u2,u3⟩:=r1 i cs j p hi hj;exact⟨u,by grind,u2,u3.ext hx⟩
 ·rw[WM h]at hi
  obtain⟨u,u1,u3⟩:=r2 _ cs j p hi hj;have yM:yR.length<=i*k+j:=by
   have:es.length*k<=i*k:=Wa _ h;omega
  refine⟨u,?_,wW u (VV u1),u3.ext hx⟩;rw[WM yM,<-u1]
  congr 1
  rw[Nat.sub_mul];have:es.length*k<=i*k:=Wa _ h;omega
theorem xD{es:List (List PV)}(hu:P.underlying T=YH (.slice e))(hz:(pz P e).isSome=YJ)(yQ:∀zc,pz P e=YH zc->zc.length=P.cellsOf e)(gH:0<P.cellsOf e)(hlen:∀cs∈es,cs.length=P.cellsOf e)
 (UT:(∃c,y=.slice YI 0 c/\es=[])\/∃(a:Addr) (c:Nat) (news:List Value),y=.slice (YH a) es.length c/\news.length=es.length*P.cellsOf e/\(∀j u,news[j]?=YH u->w.cell? (a.add j)=YH u)/\(∀u∈news,u.oneCell'=YJ)/\
  ∀(i:Nat) (cs:List PV) (j:Nat) (p:PV),es[i]?=YH cs->cs[j]?=YH p->∃u,news[i*P.cellsOf e+j]?=YH u/\dE w E p u)
 (Ca:es.length<=1099511627776) (qw:es.length*P.bytesOf e<=140737488355328):
 ∃(B:qm) (w':World),(Builtin.append_ #[T,T] ty #[.slice YI 0 0,y]).run P w=.ok B.sv w'/\w'.os=w.os/\w'.tape=w.tape/\w'.output=w.output/\w.heap.size<=w'.heap.size/\(∀b,b<w.heap.size->w'.heap[b]?=w.heap[b]?)/\
  (B.z=YK->w.heap.size<=B.b/\B.b<w'.heap.size)/\∀E',Ext w w' E E'->gm w' E' ⟨e,P.cellsOf e,es⟩ B:=by
 obtain⟨zc,hz⟩:=Option.isSome_iff_exists.1 hz;have yQ:=yQ zc hz;obtain⟨i,z,hi,uM,hc⟩:=zD (w:=w) (E:=E) hz;have PU:i.size=P.cellsOf e:=by simp[Program.cellsOf,hi]
 have hib:i.bytes=P.bytesOf e:=by simp[Program.bytesOf,hi]
 have hzs:z.cells.size=P.cellsOf e:=by rw[hc.1,yQ]
 have Ce:∀(i:Nat) (cs:List PV),es[i]?=YH cs->cs.length=P.cellsOf e:=λi cs h=>hlen cs (VV h)
 have Zgs:es=[]->∀E',gm w E' ⟨e,P.cellsOf e,es⟩ ⟨0,0,0,P.cellsOf e,e,YJ⟩:=λh0 E'=>
  ⟨rfl,by grind,rfl,gH,VX _,Wu _,X9,λ_=>h0,λh=>Yj,λ_ hT=>by simp⟩
 rcases UT with⟨c,rfl,h0⟩ |⟨a,c,news,rfl,AU,va,wW,hnr⟩
 ·exact⟨⟨0,0,0,P.cellsOf e,e,YJ⟩,w,run_append_nil hu hi c,rfl,rfl,rfl,VX _,λ_ _=>rfl,λh=>Yj,λE' _=>Zgs h0 E'⟩
 ·obtain⟨v',w',kh,xV,hg,UP,wo⟩:=run_append_own_at (P:=P) w 0 T ty e i z (P.cellsOf e) (P.bytesOf e) hu hi uM PU hib hzs gH _ 0 [] (World.ownsRow_nil _ _ _ _) a es.length c news AU va wW Yo Yd (Wu _)
  have hold:∀b,b<w.heap.size->w'.heap[b]?=w.heap[b]?:=λb pk=>hg.block b pk (by simp[Value.ownBlock])
  rcases xV.2 with⟨rfl,h0⟩ |⟨g,cap,cur,rfl,hgB,UK,hgn,hgc,hgs,Cc⟩
  ·have h0':es=[]:=List.length_eq_zero_iff.1 X9
   refine⟨⟨0,0,0,P.cellsOf e,e,YJ⟩,w',kh,hg.os,hg.tape,hg.output,hg.size,hold,λh=>Yj,λE' _=>?_⟩
   exact⟨rfl,by grind,rfl,gH,VX _,Wu _,X9,λ_=>h0',λh=>Yj,λ_ hT=>by simp⟩
  ·simp only[Value.ownBlock]at wo
   have uQ:g<w'.heap.size:=(Wh.1 UK).1;simp at Cc hgn kh
   refine⟨⟨g,cap,es.length,P.cellsOf e,e,YK⟩,w',kh,hg.os,hg.tape,hg.output,hg.size,hold,λ_=>⟨by grind,uQ⟩,λE' uJ=>?_⟩
   obtain⟨g1,g2⟩:=zS (es:=[]) (tl:=es) (k:=P.cellsOf e) gH uJ (yR:=[]) (news:=news) Ye AU Ye Ce Ye wW hnr (cur:=cur) Yd;exact⟨rfl,rfl,rfl,gH,hgn,hgc,g1,λh=>Yj,λ_=>⟨cur,UK,hgs,g2⟩,λ_ hT=>by cases hT⟩
theorem Bo(hk:Ok w0 O E w m)(vT:¬E.used ν){es:List (List PV)}{zc:List PV}(hu:P.underlying T=YH (.slice e))(hz:pz P e=YH zc)(yQ:zc.length=P.cellsOf e)(gH:0<P.cellsOf e)
 (RG:∀zc',pz P e=YH zc'->zc'.length=P.cellsOf e) (hlen:∀cs∈es,cs.length=P.cellsOf e) (Ce:∀(i:Nat) (cs:List PV),es[i]?=YH cs->cs.length=P.cellsOf e)
 (UT:(∃c,y=.slice YI 0 c/\es=[])\/∃(a:Addr) (c:Nat) (news:List Value),y=.slice (YH a) es.length c/\news.length=es.length*P.cellsOf e/\(∀j u,news[j]?=YH u->w.cell? (a.add j)=YH u)/\(∀u∈news,u.oneCell'=YJ)/\
  ∀(i:Nat) (cs:List PV) (j:Nat) (p:PV),es[i]?=YH cs->cs[j]?=YH p->∃u,news[i*P.cellsOf e+j]?=YH u/\dE w E p u)
 {B B0:qm} (hB:E.β l=YH B) (e1:B0.b=B.b) (e2:B0.z=B.z) {mb:MB} (hb:gm w E mb B0) (hmT:mb.T.t=e) (hmk:mb.k=P.cellsOf e) (Ca:mb.es.length+es.length<=1099511627776) (qw:(mb.es.length+es.length)*P.bytesOf e<=140737488355328):
 uS P w0 O E w ν (Builtin.append_ #[T,T] ty #[B0.sv,y]) (.ms ν) (oG (m.set l YI) ν ⟨mb.T.P0 es,P.cellsOf e,mb.es++es⟩):=by
 have hBk:B0.k=P.cellsOf e:=hb.k.trans hmk;have hBT:B0.T=e:=hb.T.trans hmT
 cases hzB:B0.z with
 |true=>
  have h0:=hb.nil hzB;obtain⟨B',w',kh,g1,g2,g3,g4,g5,g6,g7⟩:=xD (w:=w) (E:=E) (ty:=ty) hu Yg RG gH hlen UT X9 (by
   simp_all)
  have Ru:=hk.move vT hB ⟨mb.T.P0 es,P.cellsOf e,mb.es++es⟩ B' g1 g2 g3 g4 (λb pk _=>g5 b pk) (λuM=>.inr (g6 uM).1) (λuM=>(g6 uM).2) λuJ=>by
   rw[h0];exact(g7 _ uJ).ZcC ((TK.JJ _ _).trans hmT) λT1 h1=>(GA h1).2
  refine⟨_,w',_,by rw[show B0.sv=.slice YI 0 0 by simp[qm.sv,hzB]];exact kh,Ru.1,Ru.2,.ms _ _ (.inl rfl) (by unfold qm.sv;split<;>rfl) λB1 wT=>?_,λl hl=>hl.symm⟩
  have:B1=B':=by simpa[Env.move,eq_comm]using wT
  grind
 |false=>
  obtain⟨i,z,hi,uM,hc⟩:=zD (w:=w) (E:=E) hz;have PU:i.size=P.cellsOf e:=by simp[Program.cellsOf,hi]
  have hib:i.bytes=P.bytesOf e:=by simp[Program.bytesOf,hi]
  have hzs:z.cells.size=P.cellsOf e:=by rw[hc.1,yQ]
  have Zen:B.z=false:=e2.symm.trans hzB;obtain⟨o1,o2,o3⟩:=hk.own l B hB Zen;obtain⟨cells,m1,m2,m3⟩:=hb.mem hzB;rw[hBk]at m2 m3
  have On:B0.sv=.slice (YH ⟨B0.b,0,YI⟩) B0.n B0.c:=by simp[qm.sv,hzB]
  rw[On]
  rcases UT with⟨c,rfl,rfl⟩ |⟨a,c,news,rfl,AU,va,wW,hnr⟩
  ·have Ru:=hk.move (w':=w) vT hB ⟨mb.T.P0 [],P.cellsOf e,mb.es++[]⟩ B0 rfl rfl rfl (VX _) (λ_ _ _=>rfl) (λ_=>.inl ⟨Zen,e1⟩) (λ_=>X9) λuJ=>⟨hBk,by rw[hb.n];simp,hBT.trans ((TK.JJ _ _).trans hmT).symm,hb.pos,hb.nc,hb.cm,by
    intro i cs hi;simp at hi;exact hb.es i cs hi,λh=>Yg,λ_=>⟨cells,m1,by simp_all,by
    intro i cs j p hi hj;simp only[List.append_nil]at hi
    obtain⟨x,x1,x2,x3⟩:=m3 i cs j p hi hj;rw[hBk];exact⟨x,x1,x2,x3.ext uJ⟩⟩,λT1 hT1 J1 i cs j es x hi hj iq hc=>by
    simp only[List.append_nil]at hi
    rw[TK.JJ];exact(hb.key T1 (GA hT1).1 J1 i cs j es x hi hj iq hc).ext uJ⟩
   refine⟨_,w,_,AF (w:=w) hu hi _ _ _ c hb.nc,Ru.1,Ru.2,.ms _ _ (.inl rfl) rfl λB' nB=>?_,λl hl=>hl.symm⟩
   have:B'=B0:=by simpa[Env.move,eq_comm]using nB
   simp_all
  ·have Zhw:B0.n*P.cellsOf e<=B0.c*P.cellsOf e:=Wa _ hb.nc
   have oM:w.ownsRow 0 e (P.cellsOf e) (.slice (YH ⟨B0.b,0,YI⟩) B0.n B0.c) B0.n (cells.toList.take (B0.n*P.cellsOf e)):=
    ⟨by simp_all,.inr ⟨B0.b,B0.c,cells,rfl,Wu _,by simp_all,hb.nc,hb.cm,m2,rfl⟩⟩
   obtain⟨v',w',kh,xV,hg,UP,wo⟩:=run_append_own_at (P:=P) w 0 T ty e i z (P.cellsOf e) (P.bytesOf e) hu hi uM PU hib hzs gH _ B0.n _ oM a es.length c news AU va wW (by rw[hb.n];unfold maxLen;omega) (by rw[hb.n];omega) (Wu _)
   rcases xV.2 with⟨rfl,_⟩ |⟨g,cap,cur,rfl,hgB,UK,hgn,hgc,hgs,Cc⟩
   ·simp_all
   ·simp only[Value.ownBlock,V4]at wo hg
    have uQ:g<w'.heap.size:=(Wh.1 UK).1;have Ru:=hk.move (w':=w') vT hB ⟨mb.T.P0 es,P.cellsOf e,mb.es++es⟩ ⟨g,cap,B0.n+es.length,P.cellsOf e,e,YK⟩ hg.os hg.tape hg.output hg.size
     (λb pk uI=>hg.block b pk Yg) (λ_=>by grind) (λ_=>uQ) λuJ=>by
      obtain⟨g1,g2⟩:=zS (es:=mb.es) (tl:=es) (k:=P.cellsOf e) gH uJ (yR:=cells.toList.take (B0.n*P.cellsOf e)) (news:=news) (by rw[WR,Xd,<-hb.n];omega) AU
       (λi cs hi=>(hb.es i cs hi).trans hBk) Ce (λi cs j p hi hj=>by
        have Dw:j<P.cellsOf e:=by rw[<-(hb.es i cs hi).trans hBk];grind
        have Dk:i<B0.n:=by rw[hb.n];grind
        have bU:i*P.cellsOf e+j<B0.n*P.cellsOf e:=by
         have:(i+1)*P.cellsOf e<=B0.n*P.cellsOf e:=Wa _ Dk
         grind
        grind) wW hnr (cur:=cur) (by rw[<-hb.n];omega)
      exact⟨rfl,by simp[hb.n],((TK.JJ _ _).trans hmT).symm,gH,hgn,hgc,g1,λh=>Yj,λ_=>⟨cur,UK,hgs,g2⟩,λT1 hT1 _ i cs j es1 x hi hj iq hc=>by
       obtain⟨UM,hns⟩:=GA hT1
       rcases Wv i mb.es.length with Dk|Dk
       ·simp only[Wt Dk]at hi
        have Dw:j<P.cellsOf e:=by grind
        have bU:i*P.cellsOf e+j<B0.n*P.cellsOf e:=by
         have:(i+1)*P.cellsOf e<=B0.n*P.cellsOf e:=Wa _ (by rw[hb.n];omega)
         grind
        have Im:i*P.cellsOf e+j<(B0.n+es.length)*P.cellsOf e:=by grind
        rw[cell_of_row w' g _ cur e (0,0) UK]at hc
        have AS:cells[i*P.cellsOf e+j]?=YH x:=by
         have h5:cur.toList[i*P.cellsOf e+j]?=cells.toList[i*P.cellsOf e+j]?:=by
          rw[<-Xn Im,Cc,Wt Yg,Xn bU]
         rw[W6,W6]at h5
         rw[<-h5];exact hc
        rw[TK.JJ];exact(hb.key T1 UM hzB i cs j es1 x hi hj iq (by rw[cell_of_row w B0.b _ cells B0.T (0,0) m1,hBk];omega)).ext uJ
       ·simp only[WM Dk]at hi
        exact absurd (F0 (hns cs (VV hi)) hj) iq⟩
    refine⟨_,w',_,kh,Ru.1,Ru.2,.ms _ _ (.inl rfl) rfl λB' nB=>?_,λl hl=>hl.symm⟩
    have e':B'=⟨g,cap,B0.n+es.length,P.cellsOf e,e,YK⟩:=by simpa[Env.move,eq_comm]using nB
    subst e';rfl
theorem DE(hk:Ok w0 O E w m)(vT:¬E.used ν){p q:PV}(hx:dE w E p x)(hy:dE w E q y){K:PV->Mem->Prop}(h:gf P ν m T p q K):
 ∃p m',K p m'/\uS P w0 O E w ν (Builtin.append_ #[T,T] ty #[x,y]) p m':=by
 unfold gf at h
 split at h
 ·rename_i e hu
  split at h
  ·rename_i zc es hz wX
   obtain⟨yQ,gH,hlen,h⟩:=h;have RG:∀zc',pz P e=YH zc'->zc'.length=P.cellsOf e:=λzc' h'=>by grind
   have Ce:∀(i:Nat) (cs:List PV),es[i]?=YH cs->cs.length=P.cellsOf e:=λi cs h=>hlen cs (VV h)
   have UT:=Zax hk hy wX gH Ce
   split at h
   ·obtain⟨mb,hm,hmT,hmk,Ca,qw,hK⟩:=iv h
    obtain⟨B,hB,hb,rfl⟩:=hx.tf hk hm;exact⟨_,_,hK,Bo hk vT hu hz yQ gH RG hlen Ce UT hB rfl rfl hb hmT hmk Ca qw⟩
   ·rename_i l a b
    obtain⟨rfl,h⟩:=h;obtain⟨mb,hm,hmT,hmk,zi,Ca,qw,hK⟩:=iv h;obtain⟨B,hB,hb,Rf,hxv,A,c,hxs⟩:=hx.Ng hk hm;have Ob:gm w E ⟨mb.T,mb.k,mb.es.take b⟩ ⟨B.b,B.c,b,B.k,B.T,B.z⟩:=hb.part Rf;have On:x=(⟨B.b,B.c,b,B.k,B.T,B.z⟩:qm).sv\/B.z=true:=by
     cases hz0:B.z with
     |false=>exact .inl (by rw[hxv hz0];rfl)
     |true=>simp
    rcases On with rfl|hz0
    ·exact⟨_,_,hK,Bo (mb:=⟨mb.T,mb.k,mb.es.take b⟩) (B0:=⟨B.b,B.c,b,B.k,B.T,B.z⟩) hk vT hu hz yQ gH RG hlen Ce UT hB rfl rfl Ob hmT hmk Yd Yd⟩
    ·exact absurd (hb.nil hz0) zi.2
   ·obtain⟨Ca,qw,hK⟩:=h
    obtain⟨rfl,_⟩:=hx.gW;obtain⟨B',w',kh,g1,g2,g3,g4,g5,g6,g7⟩:=xD (w:=w) (E:=E) (ty:=ty) hu Yd RG gH hlen UT Ca qw;have Ru:=hk.new vT ⟨e,P.cellsOf e,es⟩ B' g1 g2 g3 g4 g5 g6 (g7 _);refine⟨_,_,hK,_,w',_,kh,Ru.1,Ru.2,.ms _ _ (.inl rfl) (by unfold qm.sv;split<;>rfl) λB1 wT=>?_,λl hl=>hl.symm⟩
    have:B1=B':=by simpa[Env.add,eq_comm]using wT
    grind
   grind
  grind
 grind
end
end Go.Proofs.YtdilaemengjipaaGreatDoor
