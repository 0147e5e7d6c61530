/- A part of the proof of the statement in the last file of this claim: texts on the language of the program and on its functions. No condition. -/
import Derived.WalkKit
import Derived.WalkSpells
import Derived.WalkLawsBesides
import Derived.Below
import Derived.Lib.Hide
import Derived.Outline
import Derived.Laws.OwnMore
import Derived.Maps.AppendAt
import Derived.Deep.Draws
import Derived.Deep.QuietTactic
import Derived.BigQuiet
import Derived.Lib.LaidTab
import Derived.Lib.ItoaNum
import Derived.Test.YtdilaemengjipaaGreatDoorProg
import Derived.Laws.StructEq
import Derived.Deep.DeepCutAuto
import Derived.StillTailTactics
import Derived.Laws.AppendOwnNone
set_option linter.unusedVariables false
set_option linter.unusedSimpArgs false
set_option linter.unusedSectionVars false
open Go.Value renaming int->Y1
open Go.IntKind renaming i64->Y2
open Go renaming undef->Y3
open Option renaming some->YW,none->YX
open Bool renaming true->YY,false->YZ
open Decidable renaming decide->Y0
open Go.Proofs.Tryz
namespace Go.Proofs.YtdilaemengjipaaGreatDoor
universe u
abbrev Ya:=@decide_eq_true
abbrev Yg:=@decide_eq_false
abbrev Yh:=@of_decide_eq_true
abbrev Yi:=@of_decide_eq_false
theorem Yj{α:Type u}(a b:α):cond true a b=a:=rfl
theorem Yk{α:Type u}(a b:α):cond false a b=b:=rfl
theorem Yl{p:Prop}[Decidable p]:decide p=true↔p:=decide_eq_true_iff
theorem Ym{p:Prop}{_:Decidable p}:decide p=false↔¬p:=decide_eq_false_iff_not
theorem Yn{p:Prop}(h:p:=by omega):p:=h
theorem Yo{p:Prop}(h:p:=by (repeat(first|exact Up.rfl' _|(refine Up.al _ ?_) |(refine Up.dr _ ?_) |(refine Up.rR ?_) |(refine Up.sc ?_ (by first|exact VY _|(simp;done) |omega) _) |(refine Up.step (by assumption) ?_)))):p:=h
theorem Yp{p:Prop}(h:p:=by kernel_rfl):p:=h
theorem Yq{p:Prop}(h:p:=by simp):p:=h
theorem Yr{p:Prop}(h:p:=by grind):p:=h
theorem Ys{p:Prop}(h:p:=by unfold NN;omega):p:=h
theorem Yt{p:Prop}(h:p:=by first|exact VY _|(simp;done) |omega):p:=h
theorem Yu{p:Prop}(h:p:=by simp[Op.operands]):p:=h
theorem Yv{p:Prop}(h:p:=by simp_all):p:=h
theorem Yw{p:Prop}(h:p:=by simp;omega):p:=h
theorem Yx{p:Prop}(h:p:=by simp only[bD,VZ,V0,V1];omega):p:=h
theorem Yy{p:Prop}(h:p:=by decide):p:=h
theorem Yz{p:Prop}(h:p:=by assumption):p:=h
theorem YA{p:Prop}(h:p:=by cases h):p:=h
theorem YB{p:Prop}(h:p:=by simp only[execOp,ho]):p:=h
theorem YC{p:Prop}(h:p:=by simpa[pc,eq_comm]using hp):p:=h
theorem YD{p:Prop}(h:p:=by simp[jm,pJ,nX,pj]):p:=h
theorem YE{p:Prop}(h:p:=by intro hh;have h_:=World.ownsRow.lt Gf _ hh.symm;omega):p:=h
theorem YF{p:Prop}(h:p:=by unfold maxLen;omega):p:=h
theorem YG{p:Prop}(h:p:=by intro hh;have h_:=World.ownsRow.lt HO0.out _ hh;omega):p:=h
theorem YH{p:Prop}(h:p:=by unfold maxLen;simp;omega):p:=h
theorem YI{p:Prop}(h:p:=by have h_:=sF.size;simpa using h_):p:=h
theorem YJ{p:Prop}(h:p:=by unfold fJ;simp_all):p:=h
theorem YK{p:Prop}(h:p:=by rw[bD];omega):p:=h
theorem YL{p:Prop}(h:p:=by obtain⟨q,h1,h2⟩:=HM3.out;exact h2.left h1 (by omega)):p:=h
theorem YM{p:Prop}(h:p:=by unfold fJ;grind):p:=h
theorem YN{p:Prop}(h:p:=by simp only[V0,V1];omega):p:=h
theorem YO{p:Prop}(h:p:=by intro hh;have h3_:wr.heap.size+1=g3:=VX hh;omega):p:=h
theorem YP{p:Prop}(h:p:=by have:=h.up.size;omega):p:=h
theorem YQ{p:Prop}(h:p:=by rfl):p:=h
theorem YR{p:Prop}(h:p:=by rw[pd];omega):p:=h
theorem YS{p:Prop}(h:p:=by rw[sO];omega):p:=h
theorem YT{p:Prop}(h:p:=by rw[sN];omega):p:=h
theorem YU{p:Prop}(h:p:=by unfold eA;grind):p:=h
theorem YV{p:Prop}(h:p:=by simpa using h):p:=h
open Nat renaming add_mul->Xk,add_comm->Xv,zero_mul->XQ,zero_add->Wc,add_assoc->XM,le_refl->VY,le_trans->Wr,lt_of_lt_of_le->WJ,lt_or_ge->Wv,zero_le->Ww,succ_mul->Xm,mod_eq_of_lt->XY,mul_le_mul_right->Wa,add_mul_mod_self_right->X7,div_lt_iff_lt_mul->Xz
open List renaming getElem?_eq_some_iff->VU,getElem?_append_left->Wu,getElem?_append_right->WO,getElem?_eq_getElem->VV,range->Ws,all_eq_true->V2,mem_of_getElem?->VW,length_take->Wg,replicate->V8,length_set->W5,getElem?_set_ne->WA,ofFn->Xs,length_drop->XX,getElem?_of_mem->WY,getElem?_set_self->WM,getElem?_toArray->Xy,getElem?_take_of_lt->Xq
open _root_.Array renaming getElem?_eq_some_iff->We,getElem?_eq_getElem->V7,range->XV,getElem?_toList->Xb,length_toList->WZ
open Option renaming map_eq_some_iff->Wb,ite_none_right_eq_some->WT,ite_none_left_eq_some->XU
open BitVec renaming ofInt->V9
open Option.some renaming injEq->V6
set_option maxRecDepth 10000
open Go.RowKit
variable {Bn Bo:Option Value}{T e t ty:TypeId}{a b:World}{d:TypeDesc}{i j k l n off ν:Nat}{op:BinOp}{x y:Value}
abbrev I(n:Int):Value:=Y1 Y2 n
class eZ(α:Type) where
 cells:α->List Value
 k:Nat
 len:∀x,(cells x).length=k
 pos:0<k
 one:∀x,∀u∈cells x,u.oneCell'=YY
instance :eZ Int where
 cells x:=[I x]
 k:=1
 len _:=rfl
 pos:=by decide
 one:=by simp[Value.oneCell',I]
def flat{α:Type}[eZ α](xs:List α):List Value:=xs.flatMap eZ.cells
section flat
variable {α:Type} [eZ α]
theorem tM(x:α)(xs:List α):flat (x::xs)=eZ.cells x++flat xs:=rfl
theorem IE(xs ys:List α):flat (xs++ys)=flat xs++flat ys:=by simp[flat]
theorem R6(x:α):flat [x]=eZ.cells x:=by simp[flat]
theorem qA(xs:List α):(flat xs).length=xs.length*eZ.k α:=by
 induction xs with
 |nil=>simp[flat]
 |cons x xs ih=>rw[tM,List.length_append,ih,eZ.len,List.length_cons,Xk,Nat.one_mul,Xv]
theorem F5(xs:List α):∀u∈flat xs,u.oneCell'=true:=by
 intro u hu;obtain⟨x,_,hx⟩:=List.mem_flatMap.1 hu;exact eZ.one x u hx
theorem uz{xs:List α}{x:α}(hx:xs[i]?=YW x){u:Value}(hu:(eZ.cells x)[j]?=YW u):(flat xs)[i*eZ.k α+j]?=YW u:=by
 induction xs generalizing i with
 |nil=>grind
 |cons y ys ih=>
  have hl:=eZ.len (α:=α) y
  cases i with
  |zero=>
   obtain rfl:y=x:=by simp_all
   have hj:j<(eZ.cells y).length:=(VU.1 hu).1;rw[tM,XQ,Wc,Wu hj,hu]
  |succ i=>
   have h1:=ih (i:=i) Yv;rw[tM,WO Yr,<-h1]
   grind
end flat
def Rd{α:Type}[eZ α](w:World)(B:Nat)(A:Option Addr)(xs:List α):Prop:=
 xs≠[]->∃b off,A=YW ⟨b,off,YX⟩/\b<B/\∀j u,(flat xs)[j]?=YW u->w.cell? ⟨b,off+j,YX⟩=YW u
section rd
variable {α:Type} [eZ α] {w w':World} {B B':Nat} {A:Option Addr} {xs:List α}
theorem Rd.ZaL:Rd w B A ([]:List α):=λh=>absurd rfl h
theorem Rd.aQ{x:α}(h:Rd w B A xs)(hx:xs[i]?=YW x):
 ∃b off,A=YW ⟨b,off,YX⟩/\b<B/\∀j u,(eZ.cells x)[j]?=YW u->w.cell? ⟨b,off+i*eZ.k α+j,YX⟩=YW u:=by
 obtain⟨b,off,e,hb,hc⟩:=h Yr;exact⟨b,off,e,hb,λj u hu=>by rw[XM];exact hc _ u (uz hx hu)⟩
theorem Rd.ZhF(h:Rd w B A xs)(hk:∀b o,b<B->w'.cell? ⟨b,o,YX⟩=w.cell? ⟨b,o,YX⟩):Rd w' B A xs:=λhn=>by
 obtain⟨b,off,e,hb,hc⟩:=h hn
 grind
theorem Rd.more(h:Rd w B A xs)(hB:B<=B'):Rd w B' A xs:=λhn=>by
 obtain⟨b,off,e,hb,hc⟩:=h hn
 grind
theorem Rd.below(h:Rd w B A xs)(hb:Below B w w'):Rd w' B A xs:=h.ZhF λb o hp=>hb.cell (p:=⟨b,o,YX⟩) hp
end rd
def Own{α:Type}[eZ α](w:World)(B:Nat)(E:TypeId)(v:Value)(xs:List α):Prop:=w.ownsRow B E (eZ.k α) v xs.length (flat xs)
theorem QI{α:Type}{xs:List α}{x:α}(hx:xs[i]?=YW x):xs.take (i+1)=xs.take i++[x]:=by
 rw[List.take_add_one,hx];rfl
theorem O8{α:Type}{xs:List α}(h:i<xs.length):∃x,xs[i]?=YW x:=⟨xs[i],VV h⟩
theorem PK{α:Type}{xs:List α}{x:α}(hx:xs[i]?=YW x):i<xs.length:=(VU.1 hx).1
theorem Lt{α β:Type}{xs:List α}{x:α}(hx:xs[i]?=YW x)(f:β->α->β)(a:β):(xs.take (i+1)).foldl f a=f ((xs.take i).foldl f a) x:=by
 rw[QI hx,List.foldl_append];rfl
theorem Below.next{B:Nat}{a b c:World}(h:Below B a b)(k:Below b.heap.size b c)(hB:B<=b.heap.size):Below B a c:=h.trans (k.mono hB)
abbrev Up(w w':World):Prop:=Below w.heap.size w w'
theorem Up.rfl'(w:World):Up w w:=Below.refl _ _
theorem Up.step{a b c:World}(k:Up b c)(h:Up a b):Up a c:=Below.trans h (Below.mono k h.size)
theorem Up.al(o:Obj)(h:Up a b):Up a (b.alloc o):=Below.alloc h h.size o
theorem Up.sc{p:Addr}(h:Up a b)(hp:a.heap.size<=p.block)(u:Value):Up a (b.setCell p u):=Below.setCell h hp u
theorem Up.dr(n:Nat)(h:Up a b):Up a (b.drewN n):=⟨h.os,h.tape,h.output,h.size,h.block⟩
theorem Up.rR(h:Up a b):Up a b.drew:=Below.drew h
theorem Rd.up{α:Type}[eZ α]{w w':World}{A:Option Addr}{xs:List α}(h:Rd w w.heap.size A xs)(hb:Up w w'):Rd w' w'.heap.size A xs:=(h.below hb).more hb.size
theorem Own.rd{α:Type}[eZ α]{w:World}{B E:Nat}{A:Option Addr}{c n:Nat}{xs:List α}(h:Own w B E (.slice A n c) xs):Rd w w.heap.size A xs:=by
 intro gZ;have ib:0<xs.length:=List.length_pos_iff.2 gZ
 rcases h.2 with⟨_,h0⟩ |⟨g,cap,cur,hv,hB,hg,xi,KP,so,ht⟩
 ·omega
 ·have hA:A=YW ⟨g,0,YX⟩:=by simp_all
  refine⟨g,0,hA,(We.1 hg).1,λj u hu=>?_⟩
  rw[Wc,cell_of_row w g j cur E (0,0) hg]
  grind
theorem Own.up{α:Type}[eZ α]{w w':World}{B E:Nat}{v:Value}{xs:List α}(h:Own w B E v xs)(hb:Up w w'):Own w' B E v xs:=by
 refine⟨h.1,?_⟩
 rcases h.2 with h2|⟨g,cap,cur,hv,hB,hg,r⟩
 ·simp_all
 ·exact .inr ⟨g,cap,cur,hv,hB,(hb.block g (We.1 hg).1).trans hg,r⟩
def xS(n:Nat)(f:Nat->Bool):Bool:=(Ws n).all f
theorem zo{f:Nat->Bool}:xS n f=YY↔∀i,i<n->f i=true:=by simp[xS]
theorem run_mk{P:Program}(t e:TypeId)(i:TypeInfo)(z:Value)(ht:P.underlying t=YW (.slice e))(hi:P.info? e=YW i)(hz:i.zero=YW z)
 (n:Nat) (qB:i.bytes*n<=281474976710656) (h63:n<=9223372036854775807) (w:World):
 (Instr.makeSlice t (Y1 Y2 (n:Int)) (Y1 Y2 (n:Int))).run P w=.ok (.slice (YW ⟨w.heap.size,0,YX⟩) n n) (w.alloc (.cells (madeCells z.cells (n*i.size)) e)):=by
 have hb:(i.bytes:Int)*(n:Int)<=281474976710656:=by
  omega
 have hr:=run_make (P:=P) w t e i z ht hi hz .i64 .i64 n n Yn Yn hb Yn
 simp_all
def UT (w : World) : Prop := Lib.TabIs prog w "internal/strconv.uint64pow10" .u64 Lib.pow10Tab
structure TabF(w:World):Prop where
 KX:UT w
 mx:∃m,w.cell? ⟨0,0,YX⟩=YW (Y1 Y2 m)
 es:∃t p,w.cell? ⟨4,0,YX⟩=YW (.iface t p)
 er:∃t p,w.cell? ⟨5,0,YX⟩=YW (.iface t p)
def Es(w:World)(O:Nat->Prop):Prop:=∃T:Nat->Prop,(∀b,T b->b<w.heap.size/\¬O b)/\∀w':World,(∀b,T b->w'.heap[b]?=w.heap[b]?)->TabF w'
theorem Es.of{w:World}{O:Nat->Prop}(h:∀w:World,TabF w):Es w O:=⟨λ_=>False,λ_ h=>h.elim,λw' _=>h w'⟩
theorem Es.here{w:World}{O:Nat->Prop}(h:Es w O):TabF w:=by
 obtain⟨T,_,h2⟩:=h;exact h2 w λ_ _=>rfl
inductive PV where
 |v (x:Value)
 |ud
 |un
 |sl (es:List (List PV))
 |rp (cs:List PV)
 |ms (l:Nat)
 |ss (l a b:Nat)
 |be (l i o:Nat)
 |ag (cs:List PV)
 |tu (vs:List PV)
 |fn (f:FuncId) (cs:List PV)
instance :Inhabited PV:=⟨.un⟩
structure TK where
 t:TypeId
 kd:Option TypeId
def TK.of(n:TypeId):TK:=⟨n,YX⟩
instance :Coe TypeId TK:=⟨TK.of⟩
@[simp] theorem TK.t_n(n:Nat):(TK.of n).t=n:=rfl
@[simp] theorem TK.ZiY(n:Nat):(TK.of n).kd=none:=rfl
def PS:PV->Bool
 |.sl (_::_)=>YZ
 |_=>YY
def TK.stb(T:TK)(b:Bool):TK:=match T.kd with
 |none=>T
 |some _=>if b=YY then T else⟨T.t,YX⟩
def TK.st(T:TK)(qs:List PV):TK:=T.stb (qs.all PS)
def TK.QZ(T:TK)(es:List (List PV)):TK:=T.stb (es.all λqs=>qs.all PS)
@[simp] theorem TK.Zi3(n:Nat)(qs:List PV):(TK.of n).st qs=TK.of n:=rfl
@[simp] theorem TK.Zie(n:Nat)(es:List (List PV)):(TK.of n).QZ es=TK.of n:=rfl
theorem TK.Zcm(T:TK)(b:Bool):(T.stb b).t=T.t:=by
 unfold TK.stb
 grind
theorem TK.Zf4(T:TK)(qs:List PV):(T.st qs).t=T.t:=T.Zcm _
theorem TK.Kz(T:TK)(es:List (List PV)):(T.QZ es).t=T.t:=T.Zcm _
theorem TK.Ut{T:TK}{b:Bool}{T':TypeId}(h:(T.stb b).kd=YW T'):T.kd=YW T'/\b=true:=by
 unfold TK.stb at h
 grind
theorem Gw{qs:List PV}(h:qs.all PS=YY){es:List (List PV)}(hj:qs[j]?=YW (.sl es)):es=[]:=by
 have:=V2.1 h _ (VW hj)
 cases es with
 |nil=>rfl
 |cons a l=>cases this
structure MB where
 T:TK
 k:Nat
 es:List (List PV)
abbrev Mem:=List (Option MB)
inductive eI(w:World)(S:Nat->Prop):PV->Value->Prop
 |v (x:Value) (h:x.oneCell'=YY):eI w S (.v x) x
 |ud:eI w S .ud Y3
 |un (x:Value):eI w S .un x
 |nil (A:Option Addr) (c:Nat):eI w S (.sl []) (.slice A 0 c)
 |sl (es:List (List PV)) (b off k c:Nat) (u:Nat->Nat->Value) (hS:S b) (hk:0<k) (hn:es.length<=c) (hm:c<=maxLen)
  (xh:∀(i:Nat) (cs:List PV),es[i]?=YW cs->cs.length=k)
  (hc:∀(i:Nat) (cs:List PV) (j:Nat) (p:PV),es[i]?=YW cs->cs[j]?=YW p->w.cell? ⟨b,off+i*k+j,YX⟩=YW (u i j))
  (h1:∀(i:Nat) (cs:List PV) (j:Nat) (p:PV),es[i]?=YW cs->cs[j]?=YW p->(u i j).oneCell'=YY)
  (hr:∀(i:Nat) (cs:List PV) (j:Nat) (p:PV),es[i]?=YW cs->cs[j]?=YW p->eI w S p (u i j)):eI w S (.sl es) (.slice (YW ⟨b,off,YX⟩) es.length c)
 |rp (cs:List PV) (b off:Nat) (u:Nat->Value) (hS:S b)
  (hc:∀(j:Nat) (p:PV),cs[j]?=YW p->w.cell? ⟨b,off+j,YX⟩=YW (u j))
  (h1:∀(j:Nat) (p:PV),cs[j]?=YW p->(u j).oneCell'=YY)
  (hr:∀(j:Nat) (p:PV),cs[j]?=YW p->eI w S p (u j)):eI w S (.rp cs) (.pointer (YW ⟨b,off,YX⟩))
 |fn (f:FuncId) (cs:List PV) (vs:Array Value) (hl:vs.size=cs.length)
  (hr:∀(j:Nat) (p:PV) (x:Value),cs[j]?=YW p->vs[j]?=YW x->eI w S p x):eI w S (.fn f cs) (.func (.func f) #[] vs)
structure qt where
 b:Nat
 c:Nat
 n:Nat
 k:Nat
 T:TypeId
 z:Bool
def qt.sv(B:qt):Value:=if B.z then .slice YX 0 0 else .slice (YW ⟨B.b,0,YX⟩) B.n B.c
abbrev Key:=Nat×Nat×Nat
structure Env where
 S:Nat->Prop
 β:Nat->Option qt
 used:Nat->Prop
 ω:Nat->Key->Prop
inductive dG(w:World)(E:Env):PV->Value->Prop
 |c {p:PV} {x:Value} (h:eI w E.S p x):dG w E p x
 |ms (l:Nat) (x:Value) (hl:E.used l) (h1:x.oneCell'=YY) (h:∀B,E.β l=YW B->x=B.sv):dG w E (.ms l) x
 |ss (l a b:Nat) (x:Value) (hl:E.used l) (h1:x.oneCell'=YY) (h:∀B,E.β l=YW B->(∃A c,x=.slice A (b-a) c/\a<=b/\b<=B.n/\(a<b->B.z=YZ/\A=YW ⟨B.b,a*B.k,YX⟩/\b-a<=c/\c<=maxLen))/\(a=0->B.z=YZ->∃n,x=.slice (YW ⟨B.b,0,YX⟩) n B.c)):dG w E (.ss l a b) x
 |be (l i o:Nat) (x:Value) (hl:E.used l) (h1:x.oneCell'=YY) (h:∀B,E.β l=YW B->B.z=YZ/\x=.pointer (YW ⟨B.b,i*B.k+o,YX⟩)):dG w E (.be l i o) x
 |ag (cs:List PV) (vs:Array Value) (hl:vs.size=cs.length) (h1:∀(j:Nat) (x:Value),vs[j]?=YW x->x.oneCell'=YY)
  (hr:∀(j:Nat) (p:PV) (x:Value),cs[j]?=YW p->vs[j]?=YW x->dG w E p x):dG w E (.ag cs) (.agg vs)
 |tu (ps:List PV) (vs:Array Value) (hl:vs.size=ps.length)
  (hr:∀(j:Nat) (p:PV) (x:Value),ps[j]?=YW p->vs[j]?=YW x->dG w E p x):dG w E (.tu ps) (.tuple vs)
 |fn (f:FuncId) (cs:List PV) (vs:Array Value) (hl:vs.size=cs.length)
  (hr:∀(j:Nat) (p:PV) (x:Value),cs[j]?=YW p->vs[j]?=YW x->dG w E p x):dG w E (.fn f cs) (.func (.func f) #[] vs)
def nC(β:Nat->Option qt)(b:Nat):Prop:=∃l B,β l=YW B/\B.z=YZ/\B.b=b
structure Ext(w w':World)(E E':Env):Prop where
 S:∀b,E.S b->E'.S b
 cell:∀b o,E.S b->w'.cell? ⟨b,o,YX⟩=w.cell? ⟨b,o,YX⟩
 β:∀l B,E.used l->E'.β l=YW B->E.β l=YW B
 used:∀l,E.used l->E'.used l
 S':∀b,E'.S b->E.S b\/w.heap.size<=b\/nC E.β b
 own:∀b,nC E'.β b->nC E.β b\/w.heap.size<=b
 size:w.heap.size<=w'.heap.size
 ω:∀b k,E.ω b k->E'.ω b k/\w'.heap[b]?=w.heap[b]?
 ω':∀b k,E'.ω b k->E.ω b k\/w.heap.size<=b\/nC E.β b
theorem Ext.refl(w:World)(E:Env):Ext w w E E:=⟨λ_ h=>h,λ_ _ _=>rfl,λ_ _ _ h=>h,λ_ h=>h,λ_ h=>.inl h,λ_ h=>.inl h,VY _,λ_ _ h=>⟨h,rfl⟩,λ_ _ h=>.inl h⟩
theorem Ext.trans{w w1 w2:World}{E E1 E2:Env}(h:Ext w w1 E E1)(k:Ext w1 w2 E1 E2):Ext w w2 E E2:=
 ⟨λb hb=>k.S b (h.S b hb),λb o hb=>(k.cell b o (h.S b hb)).trans (h.cell b o hb),λl B hl hB=>h.β l B hl (k.β l B (h.used l hl) hB),λl hl=>k.used l (h.used l hl),
  λb hb=>by
   rcases k.S' b hb with h1|h1|h1
   ·exact h.S' b h1
   ·exact .inr (.inl (Wr h.size h1))
   ·rcases h.own b h1 with h2|h2
    all_goals grind,λb hb=>by
   rcases k.own b hb with h1|h1
   ·exact h.own b h1
   ·exact .inr (Wr h.size h1),Wr h.size k.size,λb q hq=>⟨(k.ω b q (h.ω b q hq).1).1,(k.ω b q (h.ω b q hq).1).2.trans (h.ω b q hq).2⟩,λb q hq=>by
   rcases k.ω' b q hq with h1|h1|h1
   ·exact h.ω' b q h1
   ·exact .inr (.inl (Wr h.size h1))
   ·rcases h.own b h1 with h2|h2
    all_goals grind⟩
theorem eI.ext{w w':World}{S S':Nat->Prop}(hS:∀b,S b->S' b)(hc:∀b o,S b->w'.cell? ⟨b,o,YX⟩=w.cell? ⟨b,o,YX⟩){p:PV}(h:eI w S p x):eI w' S' p x:=by
 induction h with
 |v x h=>exact .v x h
 |ud=>exact .ud
 |un x=>exact .un x
 |nil A c=>exact .nil A c
 |sl es b off k c u QR hk hn hm xh BA h1 hr ih=>
  exact .sl es b off k c u (hS b QR) hk hn hm xh (λi cs j p h h'=>(hc _ _ QR).trans (BA i cs j p h h')) h1 ih
 |rp cs b off u QR BA h1 hr ih=>
  exact .rp cs b off u (hS b QR) (λj p h=>(hc _ _ QR).trans (BA j p h)) h1 ih
 |fn f cs vs hl hr ih=>exact .fn f cs vs hl ih
theorem dG.ext{w w':World}{E E':Env}(hx:Ext w w' E E'){p:PV}{x:Value}(h:dG w E p x):dG w' E' p x:=by
 induction h with
 |c h=>exact .c (h.ext hx.S hx.cell)
 |ms l x hl h1 h=>exact .ms l x (hx.used l hl) h1 λB hB=>h B (hx.β l B hl hB)
 |ss l a b x hl h1 h=>exact .ss l a b x (hx.used l hl) h1 λB hB=>h B (hx.β l B hl hB)
 |be l i o x hl h1 h=>exact .be l i o x (hx.used l hl) h1 λB hB=>h B (hx.β l B hl hB)
 |ag cs vs hl h1 hr ih=>exact .ag cs vs hl h1 ih
 |tu ps vs hl hr ih=>exact .tu ps vs hl ih
 |fn f cs vs hl hr ih=>exact .fn f cs vs hl ih
def Hv(w:World)(E:Env)(T:TypeId)(q:Key)(es:List (List PV))(x:Value):Prop:=
 ∃b c k cs,x=.slice (YW ⟨b,0,YX⟩) es.length c/\E.ω b q/\w.heap[b]?=YW (.cells cs T (0,0))/\cs.size=c*k/\0<k/\es.length<=c/\c<=maxLen/\∀e∈es,e.length=k
theorem Hv.ext{w w':World}{E E':Env}{q:Key}{es:List (List PV)}(h:Hv w E T q es x)(hx:Ext w w' E E'):Hv w' E' T q es x:=by
 obtain⟨b,c,k,cs,h1,h2,h3,h4⟩:=h;exact⟨b,c,k,cs,h1,(hx.ω b q h2).1,(hx.ω b q h2).2.trans h3,h4⟩
theorem dG.same{w:World}{E E':Env}(hS:∀b,E.S b->E'.S b)(xN:∀l B,E.used l->E'.β l=YW B->E.β l=YW B)(hu:∀l,E.used l->E'.used l){p:PV}(h:dG w E p x):dG w E' p x:=by
 induction h with
 |c h=>exact .c (h.ext hS λ_ _ _=>rfl)
 |ms l x hl h1 h=>exact .ms l x (hu l hl) h1 λB hB=>h B (xN l B hl hB)
 |ss l a b x hl h1 h=>exact .ss l a b x (hu l hl) h1 λB hB=>h B (xN l B hl hB)
 |be l i o x hl h1 h=>exact .be l i o x (hu l hl) h1 λB hB=>h B (xN l B hl hB)
 |ag cs vs hl h1 hr ih=>exact .ag cs vs hl h1 ih
 |tu cs vs hl hr ih=>exact .tu cs vs hl ih
 |fn f cs vs hl hr ih=>exact .fn f cs vs hl ih
structure gJ(w:World)(E:Env)(mb:MB)(B:qt):Prop where
 k:B.k=mb.k
 n:B.n=mb.es.length
 T:B.T=mb.T.t
 pos:0<B.k
 nc:B.n<=B.c
 cm:B.c<=maxLen
 es:∀(i:Nat) (cs:List PV),mb.es[i]?=YW cs->cs.length=B.k
 nil:B.z=YY->mb.es=[]
 mem:B.z=YZ->∃cells:Array Value,w.heap[B.b]?=YW (.cells cells B.T (0,0))/\cells.size=B.c*B.k/\
  ∀(i:Nat) (cs:List PV) (j:Nat) (p:PV),mb.es[i]?=YW cs->cs[j]?=YW p->∃x,cells[i*B.k+j]?=YW x/\x.oneCell'=YY/\dG w E p x
 key:∀T,mb.T.kd=YW T->B.z=YZ->∀(i:Nat) (cs:List PV) (j:Nat) (es:List (List PV)) (x:Value),mb.es[i]?=YW cs->cs[j]?=YW (.sl es)->es≠[]->w.cell? ⟨B.b,i*B.k+j,YX⟩=YW x->Hv w E T (mb.T.t,i,j) es x
theorem gJ.ZdF{w:World}{E:Env}{T T':TK}{es:List (List PV)}{B:qt}(h:gJ w E ⟨T,k,es⟩ B)(ht:T'.t=T.t)(hq:∀T1,T'.kd=YW T1->∀cs∈es,cs.all PS=YY):gJ w E ⟨T',k,es⟩ B:=
 ⟨h.k,h.n,h.T.trans ht.symm,h.pos,h.nc,h.cm,h.es,h.nil,h.mem,λT1 hT _ i cs j tC x hi hj gZ _=>absurd (Gw (hq T1 hT cs (VW hi)) hj) gZ⟩
theorem gJ.part{w:World}{E:Env}{mb:MB}{B:qt}(h:gJ w E mb B){b:Nat}(hb:b<=B.n):gJ w E ⟨mb.T,mb.k,mb.es.take b⟩ ⟨B.b,B.c,b,B.k,B.T,B.z⟩:=by
 have get:∀{i:Nat} {cs:List PV},(mb.es.take b)[i]?=YW cs->mb.es[i]?=YW cs:=λhi=>by
  grind
 refine⟨h.k,?_,h.T,h.pos,Wr hb h.nc,h.cm,λi cs hi=>h.es i cs (get hi),λhz=>?_,λhz=>?_,λT hT hz i cs j es x hi hj gZ hc=>h.key T hT hz i cs j es x (get hi) hj gZ hc⟩
 ·rw[Wg,Nat.min_eq_left (by rw[<-h.n];omega)]
 ·rw[h.nil hz,List.take_nil]
 ·obtain⟨cells,m1,m2,m3⟩:=h.mem hz
  grind
theorem Hd{T:TK}{es:List (List PV)}{T1:TypeId}(h:(T.QZ es).kd=YW T1):T.kd=YW T1/\∀cs∈es,cs.all PS=true:=by
 obtain⟨h1,h2⟩:=TK.Ut h
 grind
theorem gJ.Zb0{w:World}{E:Env}{mb:MB}{B:qt}(h:gJ w E mb B)(hi:0<mb.es.length):B.z=false:=by
 cases hz:B.z with
 |false=>rfl
 |true=>rw[h.nil hz]at hi;grind
structure Et(O:Nat->Prop)(w0 w:World):Prop where
 os:w.os=w0.os
 tape:w.tape=w0.tape
 output:w.output=w0.output
 size:w0.heap.size<=w.heap.size
 block:∀b,b<w0.heap.size->¬O b->w.heap[b]?=w0.heap[b]?
theorem Et.refl(O:Nat->Prop)(w:World):Et O w w:=⟨rfl,rfl,rfl,VY _,λ_ _ _=>rfl⟩
theorem Et.trans{O O':Nat->Prop}{a b c:World}(h:Et O a b)(k:Et O' b c)(hO:∀x,x<a.heap.size->O' x->O x):Et O a c:=
 ⟨k.os.trans h.os,k.tape.trans h.tape,k.output.trans h.output,Wr h.size k.size,λx hx hn=>(k.block x (WJ hx h.size) λh'=>hn (hO x hx h')).trans (h.block x hx hn)⟩
theorem Et.none{w w':World}(h:Et (λ_=>False) w w'):Up w w':=⟨h.os,h.tape,h.output,h.size,λb hb=>h.block b hb λh=>h⟩
structure Ok(w0:World)(O:Nat->Prop)(E:Env)(w:World)(m:Mem):Prop where
 up:Et O w0 w
 sz:∀b,E.S b->b<w.heap.size
 own:∀l B,E.β l=YW B->B.z=YZ->(O B.b\/w0.heap.size<=B.b)/\B.b<w.heap.size/\¬E.S B.b
 inj:∀l l' B B',E.β l=YW B->E.β l'=YW B'->B.z=YZ->B'.z=YZ->B.b=B'.b->l=l'
 used:∀l,E.used l->l<m.length
 bu:∀l B,E.β l=YW B->E.used l
 mem:∀l mb,m[l]?=YW (YW mb)->∃B,E.β l=YW B/\gJ w E mb B
 dom:∀l B,E.β l=YW B->∃mb,m[l]?=YW (YW mb)
 KX:Es w0 O
 ow:∀b q,E.ω b q->E.S b/\∀q',E.ω b q'->q'=q
theorem Ok.Zh1{w0:World}{O:Nat->Prop}{E:Env}{w:World}{m:Mem}(h:Ok w0 O E w m){O':Nat->Prop}(hO:∀b,O' b->O b\/w0.heap.size<=b):Es w O':=by
 obtain⟨T,h1,h2⟩:=h.KX;refine⟨T,λb hb=>⟨WJ (h1 b hb).1 h.up.size,λho=>?_⟩,λw' hw'=>h2 w' λb hb=>(hw' b hb).trans (h.up.block b (h1 b hb).1 (h1 b hb).2)⟩
 grind
theorem cell_of_heap{w w':World}{b o:Nat}(h:w'.heap[b]?=w.heap[b]?):w'.cell? ⟨b,o,YX⟩=w.cell? ⟨b,o,YX⟩:=by simp[World.cell?,h]
theorem gJ.ext{w w':World}{E E':Env}{mb:MB}{B:qt}(h:gJ w E mb B)(hx:Ext w w' E E')(hh:B.z=YZ->w'.heap[B.b]?=w.heap[B.b]?):gJ w' E' mb B:=by
 refine⟨h.k,h.n,h.T,h.pos,h.nc,h.cm,h.es,h.nil,λhz=>?_,λT hT hz i cs j es x hi hj gZ hc=>(h.key T hT hz i cs j es x hi hj gZ (by rw[<-cell_of_heap (hh hz)];omega)).ext hx⟩
 obtain⟨cells,h1,h2,h3⟩:=h.mem hz;exact⟨cells,(hh hz).trans h1,h2,λi cs j p e e'=>by
  obtain⟨x,a,b,c⟩:=h3 i cs j p e e';exact⟨x,a,b,c.ext hx⟩⟩
def oS(m:Mem)(ν:Nat)(mb:MB):Mem:=(m++V8 (ν+1-m.length) YX).set ν (YW mb)
theorem Dc(m:Mem)(ν:Nat)(mb:MB):(oS m ν mb).length=max m.length (ν+1):=by simp[oS];omega
theorem tX(m:Mem)(ν:Nat)(mb:MB):(oS m ν mb)[ν]?=YW (YW mb):=by
 unfold oS
 grind
theorem yE{m:Mem}{mb nH:MB}(h:l≠ν):(oS m ν mb)[l]?=YW (YW nH)↔m[l]?=YW (YW nH):=by
 unfold oS
 grind
def Env.add(E:Env)(ν:Nat)(B:qt):Env:={ S:=E.S,β:=λl'=>if l'=ν then YW B else E.β l',used:=λl=>l=ν\/E.used l,ω:=E.ω}
theorem Ok.new{w0 w w':World}{O:Nat->Prop}{E:Env}{m:Mem}(h:Ok w0 O E w m){ν:Nat}(wq:¬E.used ν)(mb:MB)(B:qt)
 (hos:w'.os=w.os) (I5:w'.tape=w.tape) (LC:w'.output=w.output) (yn:w.heap.size<=w'.heap.size) (hh:∀b,b<w.heap.size->w'.heap[b]?=w.heap[b]?)
 (hB:B.z=YZ->w.heap.size<=B.b/\B.b<w'.heap.size) (hb:Ext w w' E (E.add ν B)->gJ w' (E.add ν B) mb B):
 Ok w0 O (E.add ν B) w' (oS m ν mb)/\Ext w w' E (E.add ν B):=by
 have xv:∀{l:Nat} {B':qt},(E.add ν B).β l=YW B'->l≠ν->E.β l=YW B':=λnK hl=>by simpa[Env.add,hl]using nK
 have new:∀{B':qt},(E.add ν B).β ν=YW B'->B'=B:=λnK=>by simpa[Env.add,eq_comm]using nK
 have hx:Ext w w' E (E.add ν B):=by
  refine⟨λ_ hb=>hb,λb o hb=>cell_of_heap (hh b (h.sz b hb)),λl B' hl nK=>xv nK (λe=>wq (e▸hl)),λl hl=>.inr hl,λ_ hb=>.inl hb,?_,yn,λb q hq=>⟨hq,hh b (h.sz b (h.ow b q hq).1)⟩,λ_ _ h=>.inl h⟩
  rintro b ⟨l,B',nK,hz,rfl⟩
  by_cases hl:l=ν
  ·grind
  ·exact .inl ⟨l,B',xv nK hl,hz,rfl⟩
 refine⟨⟨⟨hos.trans h.up.os,I5.trans h.up.tape,LC.trans h.up.output,Wr h.up.size yn,λk hk hn=>(hh k YP).trans (h.up.block k hk hn)⟩,
  λb hb=>by have:=h.sz b hb;omega,?_,?_,?_,?_,?_,?_,h.KX,h.ow⟩,hx⟩
 ·intro l B' nK hz
  by_cases hl:l=ν
  ·subst hl
   obtain rfl:=new nK;obtain⟨b1,b2⟩:=hB hz;exact⟨.inr YP,b2,λhS=>by have:=h.sz _ hS;omega⟩
  ·obtain⟨a,b,d⟩:=h.own l B' (xv nK hl) hz
   exact⟨a,Yn,d⟩
 ·intro l l' B1 B2 h1 h2 z1 z2 e
  by_cases hl:l=ν<;>by_cases Nv:l'=ν
  ·omega
  ·have:=(h.own l' B2 (xv h2 Nv) z2).2.1
   grind
  ·have:=(h.own l B1 (xv h1 hl) z1).2.1
   grind
  ·exact h.inj l l' B1 B2 (xv h1 hl) (xv h2 Nv) z1 z2 e
 ·intro l hl
  rw[Dc]
  rcases hl with rfl|hl
  ·omega
  ·have:=h.used l hl;omega
 ·intro l B' nK
  by_cases hl:l=ν
  ·exact .inl hl
  ·exact .inr (h.bu l B' (xv nK hl))
 ·intro l nH Ec
  by_cases hl:l=ν
  ·subst hl
   rw[tX]at Ec
   obtain rfl:mb=nH:=by grind
   exact⟨B,by simp[Env.add],hb hx⟩
  ·rw[yE hl]at Ec
   obtain⟨B',nK,Ga⟩:=h.mem l nH Ec;exact⟨B',by simpa[Env.add,hl]using nK,Ga.ext hx λhz=>hh _ (h.own l B' nK hz).2.1⟩
 ·intro l B' nK
  by_cases hl:l=ν
  ·subst hl;exact⟨mb,tX _ _ _⟩
  ·obtain⟨nH,Ec⟩:=h.dom l B' (xv nK hl)
   exact⟨nH,(yE hl).2 Ec⟩
theorem Ok.put{w0 w w':World}{O:Nat->Prop}{E:Env}{m:Mem}(h:Ok w0 O E w m){B:qt}(hB:E.β l=YW B)(hz:B.z=YZ)(mb:MB)
 (hos:w'.os=w.os) (I5:w'.tape=w.tape) (LC:w'.output=w.output) (yn:w'.heap.size=w.heap.size) (hh:∀b,b≠B.b->w'.heap[b]?=w.heap[b]?)
 (hb:Ext w w' E E->gJ w' E mb B):Ok w0 O E w' (m.set l (YW mb))/\Ext w w' E E:=by
 obtain⟨o1,o2,o3⟩:=h.own l B hB hz;have hx:Ext w w' E E:=⟨λ_ hb=>hb,λb o hb=>cell_of_heap (hh b (λe=>o3 (e▸hb))),λ_ _ _ h=>h,λ_ h=>h,λ_ hb=>.inl hb,λ_ hb=>.inl hb,Yn,λb q hq=>⟨hq,hh b (λe=>o3 (e▸(h.ow b q hq).1))⟩,λ_ _ h=>.inl h⟩
 have I0:=h.used l (h.bu l B hB);refine⟨⟨⟨hos.trans h.up.os,I5.trans h.up.tape,LC.trans h.up.output,by rw[yn];exact h.up.size,λk hk hn=>(hh k (λe=>by
  grind)).trans (h.up.block k hk hn)⟩,
  λb hb=>by rw[yn];exact h.sz b hb,λl' B' nK u4=>by rw[yn];exact h.own l' B' nK u4,h.inj,λl' Nv=>by rw[W5];exact h.used l' Nv,h.bu,?_,?_,h.KX,h.ow⟩,hx⟩
 ·intro l' nH Ec
  by_cases hl:l'=l
  ·grind
  ·rw[WA (λe=>hl e.symm)]at Ec
   obtain⟨B',nK,Ga⟩:=h.mem l' nH Ec;exact⟨B',nK,Ga.ext hx λu4=>hh _ (λe=>hl (h.inj l' l B' B nK hB u4 hz e))⟩
 ·intro l' B' nK
  by_cases hl:l'=l
  ·simp_all
  ·obtain⟨nH,Ec⟩:=h.dom l' B' nK
   grind
def Env.move(E:Env)(l ν:Nat)(B:qt):Env:={ S:=E.S,β:=λi=>if i=ν then YW B else if i=l then YX else E.β i,used:=λi=>i=ν\/E.used i,ω:=E.ω}
theorem Ok.move{w0 w w':World}{O:Nat->Prop}{E:Env}{m:Mem}(h:Ok w0 O E w m){ν:Nat}(wq:¬E.used ν){l:Nat}{B:qt}(hB:E.β l=YW B)(mb:MB)(B':qt)
 (hos:w'.os=w.os) (I5:w'.tape=w.tape) (LC:w'.output=w.output) (yn:w.heap.size<=w'.heap.size) (hh:∀b,b<w.heap.size->(B.z=YZ->b≠B.b)->w'.heap[b]?=w.heap[b]?)
 (nK:B'.z=YZ->(B.z=YZ/\B'.b=B.b)\/w.heap.size<=B'.b) (bX:B'.z=YZ->B'.b<w'.heap.size) (hb:Ext w w' E (E.move l ν B')->gJ w' (E.move l ν B') mb B'):
 Ok w0 O (E.move l ν B') w' (oS (m.set l YX) ν mb)/\Ext w w' E (E.move l ν B'):=by
 have hlu:=h.bu l B hB;have xv:∀{i:Nat} {B1:qt},(E.move l ν B').β i=YW B1->i≠ν->i≠l/\E.β i=YW B1:=by
  intro i B1 xe hi;simp only[Env.move]at xe
  grind
 have new:∀{B1:qt},(E.move l ν B').β ν=YW B1->B1=B':=λxe=>by simpa[Env.move,eq_comm]using xe
 have EP:∀b,E.S b->w'.heap[b]?=w.heap[b]?:=λb hb=>hh b (h.sz b hb) (λhz e=>(h.own l B hB hz).2.2 (e▸hb))
 have hx:Ext w w' E (E.move l ν B'):=
  ⟨λ_ hb=>hb,λb o hb=>cell_of_heap (EP b hb),λi B1 hi xe=>(xv xe (λe=>wq (e▸hi))).2,λ_ hl=>.inr hl,λ_ hb=>.inl hb,λb ho=>by
   obtain⟨i,B1,xe,hz,rfl⟩:=ho
   by_cases hi:i=ν
   ·subst hi
    obtain rfl:=new xe
    rcases nK hz with⟨e1,e'⟩ |e'
    ·exact .inl ⟨l,B,hB,e1,e'.symm⟩
    omega
   ·exact .inl ⟨i,B1,(xv xe hi).2,hz,rfl⟩,yn,λb q hq=>⟨hq,EP b (h.ow b q hq).1⟩,λ_ _ h=>.inl h⟩
 have apart:∀i B1,E.β i=YW B1->i≠l->B1.z=YZ->B'.z=YZ->B1.b≠B'.b:=by
  intro i B1 xe hi hz u4 e
  rcases nK u4 with⟨e1,e'⟩ |e'
  ·exact hi (h.inj i l B1 B xe hB hz e1 (e.trans e'))
  ·have:=(h.own i B1 xe hz).2.1;omega
 refine⟨⟨⟨hos.trans h.up.os,I5.trans h.up.tape,LC.trans h.up.output,Wr h.up.size yn,λk hk hn=>(hh k YP (λhz e=>by
  rcases(h.own l B hB hz).1 with o1|o1
  all_goals grind)).trans (h.up.block k hk hn)⟩,
  λb hb=>by have:=h.sz b hb;omega,?_,?_,?_,?_,?_,?_,h.KX,h.ow⟩,hx⟩
 ·intro i B1 xe hz
  by_cases hi:i=ν
  ·subst hi
   obtain rfl:=new xe;refine⟨?_,bX hz,?_⟩
   ·rcases nK hz with⟨e1,e'⟩ |e'
    ·rw[e'];exact(h.own l B hB e1).1
    ·exact .inr YP
   ·intro hS
    rcases nK hz with⟨e1,e'⟩ |e'
    ·rw[e']at hS;exact(h.own l B hB e1).2.2 hS
    ·have:=h.sz _ hS;omega
  ·obtain⟨_,h2⟩:=xv xe hi
   obtain⟨a,b,d⟩:=h.own i B1 h2 hz;exact⟨a,Yn,d⟩
 ·intro i i' B1 B2 h1 h2 z1 z2 e
  by_cases hi:i=ν<;>by_cases nj:i'=ν
  ·omega
  ·grind
  ·grind
  ·exact h.inj i i' B1 B2 (xv h1 hi).2 (xv h2 nj).2 z1 z2 e
 ·intro i hi
  rw[Dc,W5]
  rcases hi with rfl|hi
  ·omega
  ·have:=h.used i hi;omega
 ·intro i B1 xe
  by_cases hi:i=ν
  ·exact .inl hi
  ·exact .inr (h.bu i B1 (xv xe hi).2)
 ·intro i nH Ec
  by_cases hi:i=ν
  ·subst hi
   rw[tX]at Ec
   have e:mb=nH:=by simp_all
   subst e;exact⟨B',by simp[Env.move],hb hx⟩
  ·rw[yE hi]at Ec
   have Bb:i≠l:=by
    grind
   rw[WA (λe=>Bb e.symm)]at Ec
   obtain⟨B1,xe,qZ⟩:=h.mem i nH Ec;refine⟨B1,by simp[Env.move,hi,Bb,xe],qZ.ext hx λhz=>hh _ (h.own i B1 xe hz).2.1 (λu4 e=>Bb (h.inj i l B1 B xe hB hz u4 e))⟩
 ·intro i B1 xe
  by_cases hi:i=ν
  ·subst hi;exact⟨mb,tX _ _ _⟩
  ·obtain⟨h3,h4⟩:=xv xe hi
   obtain⟨nH,Ec⟩:=h.dom i B1 h4;refine⟨nH,(yE hi).2 ?_⟩
   grind
theorem Ok.drew{w0 w:World}{O:Nat->Prop}{E:Env}{m:Mem}(h:Ok w0 O E w m)(n:Nat):Ok w0 O E (w.drewN n) m/\Ext w (w.drewN n) E E:=by
 have hx:Ext w (w.drewN n) E E:=⟨λ_ h=>h,λ_ _ _=>rfl,λ_ _ _ h=>h,λ_ h=>h,λ_ h=>.inl h,λ_ h=>.inl h,VY _,λ_ _ h=>⟨h,rfl⟩,λ_ _ h=>.inl h⟩
 exact⟨⟨⟨h.up.os,h.up.tape,h.up.output,h.up.size,h.up.block⟩,h.sz,h.own,h.inj,h.used,h.bu,λl mb hm=>by obtain⟨B,hB,hb⟩:=h.mem l mb hm;exact⟨B,hB,hb.ext hx λ_=>rfl⟩,h.dom,h.KX,h.ow⟩,hx⟩
def Rl(cs:Array Value):Bool:=cs.toList.all (·.oneCell')
def Za1:Value->PV
 |.agg cs=>if Rl cs then .ag (cs.toList.map .v)else .un
 |.tuple _=>.un
 |x=>.v x
def gH(t:List PV):Operand->PV
 |.tmp i=>t.getD i .un
 |.const x=>Za1 x
 |.func f=>.v (.func (.func f) #[] #[])
 |.global _=>.un
def rQ(w:World)(E:Env)(t:List PV)(tm:Array Value):Prop:=tm.size=t.length/\∀i p,t[i]?=YW p->dG w E p (tm.getD i Y3)
section
variable {w:World} {O:Nat->Prop} {E:Env} {w0:World} {m:Mem}
theorem dG.un'(x:Value):dG w E .un x:=.c (.un x)
theorem dG.iz{a x:Value}(h:dG w E (.v a) x):x=a/\a.oneCell'=true:=by
 cases h with
 |c h=>cases h with|v _ h=>simp_all
theorem dG.uL{es:List (List PV)}(h:dG w E (.sl es) x):eI w E.S (.sl es) x:=by cases h with|c h=>exact h
theorem dG.ME{cs:List PV}(h:dG w E (.rp cs) x):eI w E.S (.rp cs) x:=by cases h with|c h=>exact h
theorem dG.qx{cs:List PV}(h:dG w E (.ag cs) x):∃vs:Array Value,x=.agg vs/\vs.size=cs.length/\(∀(j:Nat) (x:Value),vs[j]?=YW x->x.oneCell'=YY)/\∀(j:Nat) (p:PV) (x:Value),cs[j]?=YW p->vs[j]?=YW x->dG w E p x:=by
 cases h with
 |c h=>cases h
 |ag _ vs hl h1 hr=>grind
theorem dG.xI{ps:List PV}(h:dG w E (.tu ps) x):∃vs:Array Value,x=.tuple vs/\vs.size=ps.length/\∀(j:Nat) (p:PV) (x:Value),ps[j]?=YW p->vs[j]?=YW x->dG w E p x:=by
 cases h with
 |c h=>cases h
 |tu _ vs hl hr=>grind
theorem dG.tw(hk:Ok w0 O E w m){mb:MB}(hm:m[l]?=YW (YW mb))(h:dG w E (.ms l) x):∃B,E.β l=YW B/\gJ w E mb B/\x=B.sv:=by
 obtain⟨B,hB,hb⟩:=hk.mem l mb hm
 cases h with
 |c h=>cases h
 |ms _ _ _ _ h=>simp_all
theorem dG.An(hk:Ok w0 O E w m){l a b:Nat}{mb:MB}(hm:m[l]?=YW (YW mb))(h:dG w E (.ss l a b) x):∃B,E.β l=YW B/\gJ w E mb B/\
 ∃A c,x=.slice A (b-a) c/\a<=b/\b<=B.n/\(a<b->B.z=YZ/\A=YW ⟨B.b,a*B.k,YX⟩/\b-a<=c/\c<=maxLen):=by
 obtain⟨B,hB,hb⟩:=hk.mem l mb hm
 cases h with
 |c h=>cases h
 |ss _ _ _ _ _ _ h=>simp_all
theorem dG.Oa(hk:Ok w0 O E w m){l b:Nat}{mb:MB}(hm:m[l]?=YW (YW mb))(h:dG w E (.ss l 0 b) x):∃B,E.β l=YW B/\gJ w E mb B/\b<=B.n/\(B.z=YZ->x=.slice (YW ⟨B.b,0,YX⟩) b B.c)/\∃A c,x=.slice A b c:=by
 obtain⟨B,hB,hb⟩:=hk.mem l mb hm
 cases h with
 |c h=>cases h
 |ss _ _ _ _ _ _ h=>
  grind
theorem dG.Cb(hk:Ok w0 O E w m){l i o:Nat}{mb:MB}(hm:m[l]?=YW (YW mb))(h:dG w E (.be l i o) x):∃B,E.β l=YW B/\gJ w E mb B/\B.z=YZ/\x=.pointer (YW ⟨B.b,i*B.k+o,YX⟩):=by
 obtain⟨B,hB,hb⟩:=hk.mem l mb hm
 cases h with
 |c h=>cases h
 |be _ _ _ _ _ _ h=>simp_all
theorem dG.F6{f:FuncId}{cs:List PV}(h:dG w E (.fn f cs) x):∃vs:Array Value,x=.func (.func f) #[] vs/\vs.size=cs.length/\∀(j:Nat) (p:PV) (x:Value),cs[j]?=YW p->vs[j]?=YW x->dG w E p x:=by
 cases h with
 |c h=>cases h with
  |fn _ _ vs hl hr=>exact⟨vs,rfl,hl,λj p x hp hx=>.c (hr j p x hp hx)⟩
 |fn _ _ vs hl hr=>grind
theorem mi(hk:Ok w0 O E w m){mb:MB}(hm:m[l]?=YW (YW mb)):E.used l:=by
 obtain⟨B,hB,_⟩:=hk.mem l mb hm;exact hk.bu l B hB
theorem JT(x:Value):dG w E (Za1 x) x:=by
 unfold Za1
 split
 ·rename_i cs
  split
  ·rename_i h
   have tr:∀v∈cs.toList,v.oneCell'=true:=by simp only[Rl,V2]at h;exact h
   refine .ag _ _ Yq (λj x hx=>tr x Yr) λj p x hp hx=>?_
   have e:p=.v x:=by simp_all
   subst e;exact .c (.v x (tr x Yr))
  ·exact .un' _
 ·exact .un' _
 ·rename_i h1 h2
  refine .c (.v x ?_)
  cases x<;>simp_all[Value.oneCell']
theorem yf{t:List PV}{a:Act}(h:rQ w E t a.tmps)(o:Operand):dG w E (gH t o) (a.eval o):=by
 cases o with
 |tmp i=>
  simp only[gH,Act.eval]
  rcases Wv i t.length with hi|hi
  ·have:=h.2 i _ (VV hi)
   simp_all
  ·have e:t.getD i .un=.un:=by simp_all
   rw[e];exact .un' _
 |const x=>exact JT x
 |global g=>exact .un' _
 |func f=>exact .c (.v _ rfl)
def pc:PV->Option (List PV)
 |.ag cs=>YW cs
 |.v x=>YW [.v x]
 |.sl es=>YW [.sl es]
 |.rp cs=>YW [.rp cs]
 |.ms l=>YW [.ms l]
 |.ss l a b=>YW [.ss l a b]
 |.be l i o=>YW [.be l i o]
 |.fn f cs=>YW [.fn f cs]
 |_=>YX
theorem cells_one(h:x.oneCell'=YY):x.cells=#[x]:=by cases x<;>simp_all[Value.oneCell',Value.cells]
theorem eI.one{S:Nat->Prop}{p:PV}(h:eI w S p x)(h1:p≠.ud)(h2:p≠.un):x.oneCell'=true:=by
 cases h<;>first|rfl|assumption|contradiction
theorem GN{p:PV}(h:dG w E p x){cs:List PV}(hp:pc p=YW cs):x.cells.size=cs.length/\∀(j:Nat) (q:PV),cs[j]?=YW q->∃y,x.cells[j]?=YW y/\y.oneCell'=YY/\dG w E q y:=by
 have one:x.oneCell'=YY->cs=[p]->x.cells.size=cs.length/\∀(j:Nat) (q:PV),cs[j]?=YW q->∃y,x.cells[j]?=YW y/\y.oneCell'=YY/\dG w E q y:=by
  intro h1 e;subst e;rw[cells_one h1]
  grind
 cases h with
 |c h=>
  cases h with
  |v _ h1=>exact one h1 YC
  |ud=>simp[pc]at hp
  |un=>simp[pc]at hp
  |nil A c=>exact one rfl YC
  |sl=>exact one rfl YC
  |rp=>exact one rfl YC
  |fn=>exact one rfl YC
 |ms l _ hl h1=>exact one h1 YC
 |ss l a b _ hl h1=>exact one h1 YC
 |fn=>exact one rfl YC
 |be l i o _ hl h1=>exact one h1 YC
 |ag qy vs hl h1 hr=>
  obtain rfl:qy=cs:=by simpa[pc]using hp
  refine⟨hl,λj q hq=>?_⟩
  have hj:j<vs.size:=by grind
  exact⟨vs[j],V7 hj,h1 j _ (V7 hj),hr j q _ hq (V7 hj)⟩
 |tu=>simp[pc]at hp
def KW(m:Mem):PV->Option (List PV)
 |.be l i o=>match m[l]? with
  |some (YW mb)=>(mb.es[i]?).map (·.drop o)
  |_=>YX
 |.rp cs=>YW cs
 |_=>YX
theorem N1(hk:Ok w0 O E w m){p:PV}(h:dG w E p x){cs:List PV}(hp:KW m p=YW cs):
 ∃b off,x=.pointer (YW ⟨b,off,YX⟩)/\b<w.heap.size/\∀(j:Nat) (q:PV),cs[j]?=YW q->∃y,w.cell? ⟨b,off+j,YX⟩=YW y/\y.oneCell'=YY/\dG w E q y:=by
 cases p with
 |be l i o=>
  simp only[KW]at hp
  split at hp
  ·rename_i mb hm
   obtain⟨B,hB,hb,hz,rfl⟩:=h.Cb hk hm;obtain⟨qy,Ze4,rfl⟩:=Wb.1 hp;refine⟨B.b,_,rfl,(hk.own l B hB hz).2.1,λj q hq=>?_⟩
   obtain⟨cells,h1,h2,h3⟩:=hb.mem hz;rw[List.getElem?_drop]at hq
   obtain⟨y,a,b,c⟩:=h3 i qy (o+j) q Ze4 hq;exact⟨y,by rw[cell_of_row w B.b _ cells B.T (0,0) h1,XM];exact a,b,c⟩
  simp_all
 |rp qy=>
  obtain rfl:qy=cs:=by simpa[KW]using hp
  cases h.ME with
  |rp _ b off u hS hc h1 hr=>exact⟨b,off,rfl,hk.sz b hS,λj q hq=>⟨u j,hc j q hq,h1 j q hq,.c (hr j q hq)⟩⟩
 |_=>simp[KW]at hp
def D7:TypeDesc->Bool
 |.struct _|.array _ _=>YY
 |_=>YZ
theorem sx{P:Program}(h:P.underlying t=YW d)(w:World):(isAgg t).run P w=.ok (D7 d) w:=by
 unfold isAgg;rw[Sem.run_bind,run_underlying h w]
 cases d<;>simp[D7]
theorem Gi{P:Program}(h:P.underlying t=YW d):∃i,P.info? t=YW i/\i.size=P.cellsOf t/\i.bytes=P.bytesOf t:=by
 unfold Program.underlying at h
 cases hi:P.info? t with
 |none=>simp_all
 |some i=>exact⟨i,rfl,by simp[Program.cellsOf,hi],by simp[Program.bytesOf,hi]⟩
theorem kg{P:Program}(h:0<P.cellsOf t):∃i,P.info? t=YW i/\i.size=P.cellsOf t:=by
 unfold Program.cellsOf at *
 cases hi:P.info? t with
 |none=>simp_all
 |some i=>simp
theorem run_sizeOf{P:Program}{i:TypeInfo}(h:P.info? t=YW i)(w:World):(sizeOf t).run P w=.ok i.size w:=by
 simp[sizeOf,typeInfo,h]
def rX(P:Program)(T:TypeId)(cs:Option (List PV))(K:PV->Prop):Prop:=
 match P.underlying T,cs with
 |some d,YW cs=>match D7 d with
  |true=>P.cellsOf T<=cs.length/\K (.ag (cs.take (P.cellsOf T)))
  |false=>match cs with
   |c::_=>K c
   | []=>False
 |_,_=>False
theorem E8{P:Program}{cs:List PV}{K:PV->Prop}(h:rX P T (YW cs) K){b off:Nat}(hb:b<w.heap.size)
 (hc:∀(j:Nat) (q:PV),cs[j]?=YW q->∃y,w.cell? ⟨b,off+j,YX⟩=YW y/\y.oneCell'=YY/\dG w E q y):
 ∃p x,K p/\(∀w',Up w w'->(loadVar T ⟨b,off,YX⟩).run P w'=.ok x w')/\dG w E p x:=by
 unfold rX at h
 split at h
 ·rename_i d qy hd so
  obtain rfl:cs=qy:=by simp_all
  obtain⟨i,hi,hs,_⟩:=Gi hd
  split at h
  ·rename_i Nt
   obtain⟨hle,hK⟩:=h;have hex:∀j:Fin (P.cellsOf T),∃y,w.cell? ⟨b,off+j,YX⟩=YW y/\y.oneCell'=YY/\∀q,cs[j.1]?=YW q->dG w E q y:=by
    intro j;have hj:j.1<cs.length:=Yn
    simp_all
   obtain⟨f,hf⟩:=Classical.axiomOfChoice hex;refine⟨_,.agg (Array.ofFn f),hK,λw' hu=>?_,?_⟩
   ·have hl:(loadCells ⟨b,off,YX⟩ (Xs f).length).run P w'=.ok (Xs f).toArray w':=run_loadCells_list (P:=P) w' _ (Xs f) λj v hv=>by
     have hj:j<P.cellsOf T:=by grind
     have e:(⟨b,off,YX⟩:Addr).add j=⟨b,off+j,YX⟩:=by unfold Addr.add;simp
     rw[e,hu.cell (p:=⟨b,off+j,YX⟩) hb,(hf ⟨j,hj⟩).1]
     simp_all
    simp only[List.length_ofFn]at hl
    have e2:(Xs f).toArray=Array.ofFn f:=by simp
    rw[e2]at hl
    simp[loadVar,sx hd,Nt,run_sizeOf hi,hs,hl]
   ·refine .ag _ _ Yv (λj x hx=>?_) λj p x hp hx=>?_
    ·have hj:j<P.cellsOf T:=by have:=(We.1 hx).1;simp_all
     have:f ⟨j,hj⟩=x:=by simp_all
     grind
    ·have hj:j<P.cellsOf T:=by grind
     have:f ⟨j,hj⟩=x:=by simp_all
     grind
  ·rename_i Nt
   split at h
   ·rename_i c qy
    obtain⟨y,h1,h2,h3⟩:=hc 0 c rfl;refine⟨c,y,h,λw' hu=>?_,h3⟩
    have KN:w'.cell? ⟨b,off,YX⟩=YW y:=(hu.cell (p:=⟨b,off,YX⟩) hb).trans h1;simp[loadVar,sx hd,Nt,KN]
   simp_all
 simp_all
theorem L6{P:Program}{cs:List PV}{K:PV->Prop}(h:rX P T (YW (cs.drop off)) K){vs:Array Value}(hl:vs.size=cs.length)
 (h1:∀(j:Nat) (x:Value),vs[j]?=YW x->x.oneCell'=YY) (hr:∀(j:Nat) (p:PV) (x:Value),cs[j]?=YW p->vs[j]?=YW x->dG w E p x):
 ∃p x,K p/\(∀w',(part T vs off).run P w'=.ok x w')/\dG w E p x:=by
 unfold rX at h
 split at h
 ·rename_i d qy hd so
  obtain rfl:cs.drop off=qy:=by simp_all
  obtain⟨i,hi,hs,_⟩:=Gi hd
  split at h
  ·rename_i Nt
   obtain⟨hle,hK⟩:=h;rw[XX]at hle
   refine⟨_,.agg (vs.extract off (off+P.cellsOf T)),hK,λw'=>?_,?_⟩
   ·simp[part,sx hd,Nt,run_sizeOf hi,hs]
   ·refine .ag _ _ Yr (λj x hx=>?_) λj p x hp hx=>?_
    ·rw[Array.getElem?_extract]at hx
     grind
    grind
  ·rename_i Nt
   split at h
   ·rename_i c qy Ze4
    have hc:cs[off]?=YW c:=by
     have:(cs.drop off)[0]?=YW c:=by simp_all
     grind
    have ho:off<vs.size:=by grind
    refine⟨c,vs[off],h,λw'=>?_,hr off c _ hc (V7 ho)⟩
    simp[part,sx hd,Nt,V7 ho]
   simp_all
 simp_all
end
def dC(a b:ByteArray):Bool:=Y0 (a.size+b.size<=9223372036854775807)
def qU(a b:ByteArray):Bool:=Op.bytesLess a.toList b.toList
def MH(a b:ByteArray):Bool:=Op.bytesLess a.toList b.toList ||a.toList==b.toList
theorem Int.Ce(a b:Int):(a==b)=Y0 (a=b):=rfl
theorem baL(a b:ByteArray):(a.toList=b.toList)=(a=b):=by
 obtain⟨⟨x⟩⟩:=a;obtain⟨⟨y⟩⟩:=b;simp
theorem baB(a b:ByteArray):(a.toList==b.toList)=Y0 (a=b):=by
 rw[Bool.eq_iff_iff,beq_iff_eq,baL,decide_eq_true_eq]
def Vc(P:Program)(op:BinOp)(T:TypeId):Value->Value->Option Value
 |.int k a,.int k' b=>
  match op with
  |.shl=>if 0<=b then YW (.int k (k.wrap (a*2 ^ (min b.toNat k.bits))))else YX
  |.shr=>if 0<=b then YW (.int k (a.fdiv (2 ^ (min b.toNat k.bits))))else YX
  |.add=>if k=k' then YW (.int k (k.wrap (a+b)))else YX
  |.sub=>if k=k' then YW (.int k (k.wrap (a-b)))else YX
  |.mul=>if k=k' then YW (.int k (k.wrap (a*b)))else YX
  |.quo=>if k=k'/\b≠0 then YW (.int k (k.wrap (a.tdiv b)))else YX
  |.rem=>if k=k'/\b≠0 then YW (.int k (a.tmod b))else YX
  |.and=>if k=k' then YW (.int k (k.wrap (V9 k.bits a &&& V9 k.bits b).toNat))else YX
  |.or=>if k=k' then YW (.int k (k.wrap (V9 k.bits a |||V9 k.bits b).toNat))else YX
  |.xor=>if k=k' then YW (.int k (k.wrap (V9 k.bits a ^^^ V9 k.bits b).toNat))else YX
  |.eql=>if k=k' then YW (.bool (Y0 (a=b)))else YX
  |.neq=>if k=k' then YW (.bool (!decide (a=b)))else YX
  |.lss=>if k=k' then YW (.bool (Y0 (a<b)))else YX
  |.leq=>if k=k' then YW (.bool (Y0 (a<=b)))else YX
  |.gtr=>if k=k' then YW (.bool (Y0 (b<a)))else YX
  |.geq=>if k=k' then YW (.bool (Y0 (b<=a)))else YX
  |_=>YX
 |.string a,.string b=>
  match op with
  |.add=>if dC a b=YY then YW (.string (a++b))else YX
  |.eql=>YW (.bool (Y0 (a=b)))
  |.neq=>YW (.bool !decide (a=b))
  |.lss=>YW (.bool (qU a b))
  |.leq=>YW (.bool (MH a b))
  |.gtr=>YW (.bool !MH a b)
  |.geq=>YW (.bool !qU a b)
  |_=>YX
 |.bool a,.bool b=>match P.underlying T with
  |some .bool=>match op with
   |.eql=>YW (.bool (a==b))
   |.neq=>YW (.bool !(a==b))
   |_=>YX
  |_=>YX
 |_,_=>YX
theorem H3{P:Program}{x y:Operand}{a b r:Value}(h:Vc P op T a b=YW r)(w:World):
 ((do eqGuard op T x y a b;binOp op T a b:Sem Value).run P w)=.ok r w/\r.oneCell'=true:=by
 unfold Vc at h
 split at h
 ·rename_i k a k' b
  cases op<;>simp only[WT,V6,reduceCtorEq]at h
  all_goals first
   |(obtain⟨⟨rfl,h0⟩,rfl⟩:=h;simp[eqGuard,binOp,Op.intDiv,h0,Value.oneCell'])
   |(obtain⟨rfl,rfl⟩:=h;simp[eqGuard,binOp,Op.intArith,Op.intBits,Op.intCmp,Value.oneCell',bne];done)
   |(obtain⟨rfl,rfl⟩:=h;exact⟨by simp[eqGuard,binOp,Op.intCmp,bne,Int.Ce],rfl⟩)
   |(obtain⟨h0,rfl⟩:=h
     have h1:¬b<0:=Yn;simp[eqGuard,binOp,Op.shift,h1,Value.oneCell'])
 ·rename_i a b
  cases op<;>simp only[WT,V6,reduceCtorEq]at h
  all_goals first
   |(subst h;simp[eqGuard,binOp,Op.stringOp,Value.oneCell',qU,MH,baB];done)
   |(obtain⟨h0,rfl⟩:=h
     have h0:a.size+b.size<=9223372036854775807:=Yh h0;simp only[eqGuard,binOp,Op.stringOp];simp[Value.oneCell'];omega)
 ·rename_i a b
  split at h
  ·rename_i hu
   cases op<;>simp only[V6,reduceCtorEq]at h
   all_goals(subst h;simp[eqGuard,binOp,Op.equal,Op.maxDepth,run_equalIn_bool' w _ _ _ _ hu,Value.oneCell'])
  grind
 grind
def Cy(P:Program):Nat->TypeId->List PV->List PV->Option Bool
 |0,_,_,_=>YX
 |d+1,T,cs,ds=>
  match P.underlying T with
  |some .bool=>match cs,ds with
   |.v (.bool a)::_,.v (.bool b)::_=>YW (a==b)
   |_,_=>YX
  |some (.int _)=>match cs,ds with
   |.v (.int k a)::_,.v (.int k' b)::_=>if k=k' then YW (a==b)else YX
   |_,_=>YX
  |some .string=>match cs,ds with
   |.v (.string a)::_,.v (.string b)::_=>YW (a.toList==b.toList)
   |_,_=>YX
  |some (.struct _)=>if P.stoodInHeld T then YX else
   (P.fieldsOf T).toList.foldr (λf acc => if f.name = "_" then YX else match Cy P d f.type ((cs.drop f.offset).take (P.cellsOf f.type)) ((ds.drop f.offset).take (P.cellsOf f.type)), acc with
    |some r,YW s=>YW (r&&s)
    |_,_=>YX) (YW YY)
  |_=>YX
section
variable {w:World} {O:Nat->Prop} {E:Env} {w0:World} {m:Mem} {P:Program}
def vd(w:World)(E:Env)(P:Program)(T:TypeId)(cs:List PV)(x:Value):Prop:=
 ∀d,P.underlying T=YW d->(D7 d=YY->∃vs:Array Value,x=.agg vs/\∀(j:Nat) (p:PV),cs[j]?=YW p->∃v,vs[j]?=YW v/\dG w E p v)/\(D7 d=YZ->∀p,cs[0]?=YW p->dG w E p x)
theorem Nn:∀(d:Nat) (T:TypeId) (cs ds:List PV) (x y:Value) (r:Bool),Cy P d T cs ds=YW r->vd w E P T cs x->vd w E P T ds y->∀w':World,(Op.equalIn d T x y).run P w'=.ok r w'
 |0,_,_,_,_,_,_,h,_,_,_=>by simp[Cy]at h
 |d+1,T,cs,ds,x,y,r,h,hx,hy,w'=>by
  unfold Cy at h
  split at h
  ·rename_i hu
   split at h
   ·rename_i a _ b _
    have h1:=((hx _ hu).2 rfl _ rfl).iz.1;have h2:=((hy _ hu).2 rfl _ rfl).iz.1;subst h1 h2;simp only[V6]at h
    subst h;exact run_equalIn_bool' w' _ _ _ _ hu
   grind
  ·rename_i k0 hu
   split at h
   ·rename_i k a _ k' b _
    simp only[WT,V6]at h
    obtain⟨rfl,rfl⟩:=h;have h1:=((hx _ hu).2 rfl _ rfl).iz.1;have h2:=((hy _ hu).2 rfl _ rfl).iz.1;subst h1 h2;simp[Op.equalIn,run_underlying hu]
   grind
  ·rename_i hu
   split at h
   ·rename_i a _ b _
    have h1:=((hx _ hu).2 rfl _ rfl).iz.1;have h2:=((hy _ hu).2 rfl _ rfl).iz.1;subst h1 h2;simp only[V6]at h
    subst h;exact run_equalIn_string w' _ _ _ _ hu
   grind
  ·rename_i fs hu
   simp only[XU]at h
   obtain⟨u0,h⟩:=h;have Zhn:P.stoodInHeld T=false:=by simp_all
   obtain⟨vs,rfl,hvs⟩:=(hx _ hu).1 rfl;obtain⟨us,rfl,hus⟩:=(hy _ hu).1 rfl;have hf:P.fieldsOf T=fs:=by simp[Program.fieldsOf,hu]
   rw[run_equalIn_struct w' d T vs us Yv Zhn,hf];rw[hf]at h
   generalize fs.toList=l at h
   clear hu hf
   induction l generalizing r with
   |nil=>simp only[List.foldr_nil,V6]at h;subst h;rfl
   |cons f l ih=>
    simp only[List.foldr_cons,XU]at h
    obtain⟨hn,h⟩:=h
    split at h
    ·rename_i r1 r2 h1 h2
     simp only[V6]at h
     subst h;have NT:∀{zs:Array Value} {es:List PV},(∀(j:Nat) (p:PV),es[j]?=YW p->∃v,zs[j]?=YW v/\dG w E p v)->((es.drop f.offset).take (P.cellsOf f.type))≠[]\/(∃fs,P.underlying f.type=YW (.struct fs))->
      (∃dd,P.underlying f.type=YW dd)->∃z,(part f.type zs f.offset).run P w'=.ok z w'/\vd w E P f.type ((es.drop f.offset).take (P.cellsOf f.type)) z:=by
      intro zs es hz gZ ⟨dd,hd⟩;obtain⟨i,hi,hs,_⟩:=Gi hd
      cases Nt:D7 dd with
      |true=>
       refine⟨.agg (zs.extract f.offset (f.offset+P.cellsOf f.type)),by simp[part,sx hd,Nt,run_sizeOf hi,hs],?_⟩
       intro d' xg
       grind
      |false=>
       have Zfk:((es.drop f.offset).take (P.cellsOf f.type))≠[]:=by
        rcases gZ with h|⟨fs,h⟩
        ·exact h
        ·rw[hd]at h;cases h;simp[D7]at Nt
       obtain⟨p,hp⟩:∃p,((es.drop f.offset).take (P.cellsOf f.type))[0]?=YW p:=by
        cases hq:((es.drop f.offset).take (P.cellsOf f.type))with
        |nil=>simp_all
        |cons a _=>simp
       have SE:es[f.offset]?=YW p:=by
        grind
       obtain⟨v,h1,h2⟩:=hz _ p SE;refine⟨v,by simp[part,sx hd,Nt,h1],?_⟩
       intro d' xg
       simp_all
     have Gg:(((cs.drop f.offset).take (P.cellsOf f.type))≠[]\/(∃fs,P.underlying f.type=YW (.struct fs)))/\(((ds.drop f.offset).take (P.cellsOf f.type))≠[]\/(∃fs,P.underlying f.type=YW (.struct fs)))/\∃dd,P.underlying f.type=YW dd:=by
      cases d with
      |zero=>simp[Cy]at h1
      |succ d=>
       unfold Cy at h1
       grind
     obtain⟨a,ha,hac⟩:=NT hvs Gg.1 Gg.2.2;obtain⟨b,hb,hbc⟩:=NT hus Gg.2.1 Gg.2.2;have hr:=Nn d f.type _ _ a b r1 h1 hac hbc w';simp only[Op.eqFields,hn,ne_eq,not_false_eq_true,if_true,Sem.run_bind,ha,hb,hr,Result.andThen_ok,Sem.run_ite]
     cases r1 with
     |true=>simp_all
     |false=>simp
    grind
  grind
def Gx(o:Option Value)(K:PV->Prop):Prop:=match o with
 |some r=>K (.v r)
 |none=>False
def u7(P:Program)(op:BinOp)(T:TypeId)(cs ds:List PV)(K:PV->Prop):Prop:=P.eqGuardType P.depth T=YZ/\match P.underlying T,Cy P 10000 T cs ds with
    |some (.struct _),YW r=>match op with
     |.eql=>K (.v (.bool r))
     |.neq=>K (.v (.bool !r))
     |_=>False
    |_,_=>False
def JJ(P:Program)(op:BinOp)(T:TypeId)(x y:PV)(K:PV->Prop):Prop:=
 match x,y with
 |.v a,.v b=>Gx (Vc P op T a b) K
 |.ag cs,.ag ds=>u7 P op T cs ds K
 |_,_=>False
theorem L1{ox oy:Operand}{p q:PV}(hx:dG w E p x)(hy:dG w E q y){K:PV->Prop}(h:JJ P op T p q K):
 ∃r v,K r/\(∀w',((do eqGuard op T ox oy x y;binOp op T x y:Sem Value).run P w')=.ok v w')/\dG w E r v:=by
 unfold JJ at h
 split at h
 ·rename_i a b
  obtain⟨rfl,_⟩:=hx.iz;obtain⟨rfl,_⟩:=hy.iz;unfold Gx at h
  split at h
  ·rename_i r hr
   exact⟨_,r,h,λw'=>(H3 hr w').1,.c (.v r (H3 (x:=ox) (y:=oy) hr w).2)⟩
  simp_all
 ·rename_i cs ds
  obtain⟨hg,h⟩:=h;obtain⟨vs,rfl,hl,_,hr⟩:=hx.qx;obtain⟨us,rfl,Nv,_,Pm⟩:=hy.qx
  split at h
  ·rename_i fs r hu he
   have c1:vd w E P T cs (.agg vs):=by
    intro d hd;rw[hu]at hd;cases hd;refine⟨λ_=>⟨vs,rfl,λj p hp=>?_⟩,λh=>by simp[D7]at h⟩
    have hj:j<vs.size:=by grind
    exact⟨vs[j],V7 hj,hr j p _ hp (V7 hj)⟩
   have c2:vd w E P T ds (.agg us):=by
    intro d hd;rw[hu]at hd;cases hd;refine⟨λ_=>⟨us,rfl,λj p hp=>?_⟩,λh=>by simp[D7]at h⟩
    have hj:j<us.size:=by grind
    exact⟨us[j],V7 hj,Pm j p _ hp (V7 hj)⟩
   have kv:=λw'=>Nn (w:=w) (E:=E) 10000 T cs ds _ _ r he c1 c2 w'
   split at h
   ·exact⟨_,.bool r,h,λw'=>by simp[Sem.run_bind,run_eqGuard_agg w' _ _ _ _ _ _ hg,Result.andThen_ok,run_eql_struct,kv],.c (.v _ rfl)⟩
   ·exact⟨_,.bool !r,h,λw'=>by simp only[Sem.run_bind,run_eqGuard_agg w' _ _ _ _ _ _ hg,Result.andThen_ok,run_neq_struct,kv],.c (.v _ rfl)⟩
   simp_all
  simp_all
 simp_all
end
section
variable {w:World} {O:Nat->Prop} {E:Env} {w0:World} {m:Mem} {P:Program}
def pUn(op:UnOp)(x:PV)(K:PV->Prop):Prop:=
 match op,x with
 |.not,.v (.bool b)=>K (.v (.bool !b))
 |.neg,.v (.int k n)=>K (.v (.int k (k.wrap (0-n))))
 |_,_=>False
theorem PY{op:UnOp}{p:PV}(hx:dG w E p x){K:PV->Prop}(h:pUn op p K):∃r v,K r/\(∀w',(Op.unary op x).run P w'=.ok v w')/\dG w E r v:=by
 unfold pUn at h
 split at h
 ·obtain⟨rfl,_⟩:=hx.iz
  exact⟨_,_,h,λw'=>by rfl,.c (.v _ rfl)⟩
 ·obtain⟨rfl,_⟩:=hx.iz
  exact⟨_,_,h,λw'=>by rfl,.c (.v _ rfl)⟩
 grind
def Di(P:Program)(s d:TypeId)(x:PV)(K:PV->Prop):Prop:=
 match P.underlying s,P.underlying d,x with
 |some (.int _),YW (.int k),.v (.int _ n)=>K (.v (.int k (k.wrap n)))
 |some .string,YW .string,.v (.string t)=>K (.v (.string t))
 |_,_,_=>False
theorem JL{s d:TypeId}{p:PV}(hx:dG w E p x){K:PV->Prop}(h:Di P s d p K):∃r v,K r/\(∀w',(convert s d x).run P w'=.ok v w')/\dG w E r v:=by
 unfold Di at h
 split at h
 ·rename_i _ k _ n h1 h2
  obtain⟨rfl,_⟩:=hx.iz;exact⟨_,_,h,λw'=>by simp[convert,run_underlying h1,run_underlying h2,Conv.intToInt],.c (.v _ rfl)⟩
 ·rename_i t h1 h2
  obtain⟨rfl,_⟩:=hx.iz;exact⟨_,_,h,λw'=>by simp[convert,run_underlying h1,run_underlying h2],.c (.v _ rfl)⟩
 grind
def live(m:Mem)(l:Nat)(K:MB->Prop):Prop:=
 match m[l]? with
 |some (YW mb)=>K mb
 |_=>False
theorem iM{K:MB->Prop}(h:live m l K):∃mb,m[l]?=YW (YW mb)/\K mb:=by
 unfold live at h
 grind
def GB(x:Option PV)(d:Int):Option Int:=
 match x with
 |none=>YW d
 |some (.v (.int _ i))=>YW i
 |_=>YX
def kY(P:Program)(m:Mem)(T:TypeId)(x:PV)(lo hi:Option PV)(K:PV->Prop):Prop:=
 match P.underlying T,x with
 |some .string,.v (.string s)=>match GB lo 0,GB hi s.size with
  |some l,YW h=>0<=l/\l<=h/\h<=s.size/\K (.v (.string (s.extract l.toNat h.toNat)))
  |_,_=>False
 |some (.slice e),.sl es=>match GB lo 0,GB hi es.length with
  |some l,YW h=>0<=l/\l<=h/\h<=es.length/\0<P.cellsOf e/\(∀cs∈es,cs.length=P.cellsOf e)/\K (.sl ((es.drop l.toNat).take (h.toNat-l.toNat)))
  |_,_=>False
 |some (.slice e),.ms r=>live m r λmb=>match GB lo 0,GB hi mb.es.length with
  |some l,YW h=>0<=l/\l<=h/\h<=mb.es.length/\0<P.cellsOf e/\mb.k=P.cellsOf e/\K (.ss r l.toNat h.toNat)
  |_,_=>False
 |some (.slice e),.ss r a b=>live m r λmb=>match GB lo 0,GB hi (b-a:Nat)with
  |some l,YW h=>0<=l/\l<=h/\h<=(b-a:Nat)/\0<P.cellsOf e/\mb.k=P.cellsOf e/\K (.ss r (a+l.toNat) (a+h.toNat))
  |_,_=>False
 |some (.slice e),.v (.slice YX 0 0)=>match GB lo 0,GB hi 0 with
  |some l,YW h=>0<=l/\l<=h/\h<=0/\0<P.cellsOf e/\K (.sl [])
  |_,_=>False
 |_,_=>False
theorem run_sliceBound{y:Nat}{c:BoundsCode}{k:IntKind}{i:Int}(h0:0<=i)(h1:i<=y)(w':World):(Instr.sliceBound (.int k i) y c).run P w'=.ok i.toNat w':=by
 simp[Instr.sliceBound,asIntOf,h0,h1]
theorem rB{x:Option PV}{v:Option Value}{d l:Int}(h:GB x d=YW l)(hx:∀p,x=YW p->∃y,v=YW y/\dG w E p y)(hn:x=YX->v=YX):(v=YX/\l=d/\x=YX)\/∃k,v=YW (.int k l):=by
 unfold GB at h
 split at h
 ·grind
 ·obtain⟨y,hy,hr⟩:=hx _ rfl
  obtain⟨rfl,_⟩:=hr.iz
  grind
 grind
theorem jR{isS:Bool}{len cap:Nat}{l h:Int}(Ss:(Bo=YX/\l=0)\/∃k,Bo=YW (.int k l))(hhi:(Bn=YX/\h=len)\/∃k,Bn=YW (.int k h))(h0:0<=l)(h1:l<=h)(h2:h<=len)(hc:len<=cap)(w':World):
 (Instr.sliceBounds isS len cap Bo Bn YX).run P w'=.ok (l.toNat,h.toNat,cap) w':=by
 have e1:(l:Int)<=(h.toNat:Int):=Yn;have e2:h<=(cap:Int):=Yn;have e3:0<=h:=Yn;have r1:∀k c,(Instr.sliceBound (.int k l) h.toNat c).run P w'=.ok l.toNat w':=λk c=>run_sliceBound h0 e1 w'
 have r2:∀k c,(Instr.sliceBound (.int k h) cap c).run P w'=.ok h.toNat w':=λk c=>run_sliceBound e3 e2 w'
 rcases Ss with⟨rfl,rfl⟩ |⟨k,rfl⟩<;>rcases hhi with⟨rfl,rfl⟩ |⟨k',rfl⟩<;>
  (try simp only[Int.toNat_natCast]at r1)<;>simp[Instr.sliceBounds,r1,r2]
theorem se{i:TypeInfo}(hu:P.underlying T=YW (.slice e))(nj:P.info? e=YW i)(hs:i.size=P.cellsOf e){A:Option Addr}{n c:Nat}{l hh:Int}{w':World}
 (hb:(Instr.sliceBounds YY n c Bo Bn YX).run P w'=.ok (l.toNat,hh.toNat,c) w'):
 (Instr.sliceAt T (.slice A n c) Bo Bn YX).run P w'=.ok (.slice (if c=l.toNat then A else A.map (·.add (l.toNat*P.cellsOf e))) (hh.toNat-l.toNat) (c-l.toNat)) w':=by
 simp[Instr.sliceAt,Instr.slice,run_underlying hu,hb,run_sizeOf nj,hs]
theorem GJ(hk:Ok w0 O E w m){p:PV}{lo hi:Option PV}(hx:dG w E p x)(h1:∀p,lo=YW p->∃y,Bo=YW y/\dG w E p y)(h1n:lo=YX->Bo=YX)
 (h2:∀p,hi=YW p->∃y,Bn=YW y/\dG w E p y) (h2n:hi=YX->Bn=YX) {K:PV->Prop} (h:kY P m T p lo hi K):
 ∃r v,K r/\(∀w',(Instr.sliceAt T x Bo Bn YX).run P w'=.ok v w')/\dG w E r v:=by
 unfold kY at h
 split at h
 ·rename_i s hu
  obtain⟨rfl,_⟩:=hx.iz
  split at h
  ·rename_i l hh e1 e2
   obtain⟨a1,a2,a3,hK⟩:=h;refine⟨_,.string (s.extract l.toNat hh.toNat),hK,λw'=>?_,.c (.v _ rfl)⟩
   have b1:=rB e1 h1 h1n;have b2:=rB e2 h2 h2n;have hb:=jR (P:=P) (isS:=YZ) (len:=s.size) (cap:=s.size) (l:=l) (h:=hh) (Bo:=Bo) (Bn:=Bn) Yr Yr a1 a2 a3 (VY _) w';simp[Instr.sliceAt,Instr.slice,run_underlying hu,hb]
  grind
 ·rename_i e es hu
  split at h
  ·rename_i l hh e1 e2
   obtain⟨a1,a2,a3,ib,hlen,hK⟩:=h;have b1:=rB e1 h1 h1n;have b2:=rB e2 h2 h2n;obtain⟨i,nj,hs⟩:=kg ib
   cases hx.uL with
   |nil A c=>
    simp at a3 b2
    have IZ:l=0:=Yn;have hh0:hh=0:=Yn;subst IZ hh0;have hb:=jR (P:=P) (isS:=YY) (len:=0) (cap:=c) (l:=0) (h:=0) (Bo:=Bo) (Bn:=Bn) Yr Yr Yn Yn Yq (Ww _);refine⟨_,.slice (if c=0 then A else A.map (·.add 0)) 0 c,hK,λw'=>?_,?_⟩
    ·simp[Instr.sliceAt,Instr.slice,run_underlying hu,hb,run_sizeOf nj]
    ·exact .c (.nil _ _)
   |sl _ b off k c u hS hk hn hm xh hc KN hr=>
    have hb:=jR (P:=P) (isS:=YY) (len:=es.length) (cap:=c) (l:=l) (h:=hh) (Bo:=Bo) (Bn:=Bn) Yr Yr a1 a2 a3 hn;have bX:((es.drop l.toNat).take (hh.toNat-l.toNat)).length=hh.toNat-l.toNat:=by
     grind
    refine⟨_,.slice (if c=l.toNat then YW ⟨b,off,YX⟩else YW ((⟨b,off,YX⟩:Addr).add (l.toNat*P.cellsOf e))) (hh.toNat-l.toNat) (c-l.toNat),hK,λw'=>?_,?_⟩
    ·simp[Instr.sliceAt,Instr.slice,run_underlying hu,hb,run_sizeOf nj,hs]
    ·rcases Nat.eq_zero_or_pos (hh.toNat-l.toNat)with h0|h0
     ·rw[h0];exact .c (.nil _ _)
     ·have gZ:¬c=l.toNat:=Yn
      rw[if_neg gZ];have hek:k=P.cellsOf e:=by
       have hl:l.toNat<es.length:=Yn;exact(xh _ _ (VV hl)).symm.trans (hlen _ (List.getElem_mem hl))
      have ea:(⟨b,off,YX⟩:Addr).add (l.toNat*P.cellsOf e)=⟨b,off+l.toNat*k,YX⟩:=by rw[hek];unfold Addr.add;simp
      have get:∀{i:Nat} {cs:List PV},((es.drop l.toNat).take (hh.toNat-l.toNat))[i]?=YW cs->es[l.toNat+i]?=YW cs:=by
       grind
      have key:=eI.sl (w:=w) (S:=E.S) ((es.drop l.toNat).take (hh.toNat-l.toNat)) b (off+l.toNat*k) k (c-l.toNat) (λi j=>u (l.toNat+i) j) hS hk Yn Yn
       (λi cs hi=>xh _ cs (get hi)) (λi cs j p hi hj=>by
        grind) (λi cs j p hi hj=>KN _ cs j p (get hi) hj) (λi cs j p hi hj=>hr _ cs j p (get hi) hj)
      rw[bX]at key
      rw[ea];exact .c key
  grind
 ·rename_i e r hu
  obtain⟨mb,hm,h⟩:=iM h
  split at h
  ·rename_i l hh e1 e2
   obtain⟨a1,a2,a3,ib,Ph,hK⟩:=h;have b1:=rB e1 h1 h1n;have b2:=rB e2 h2 h2n;obtain⟨i,nj,hs⟩:=kg ib;obtain⟨B,hB,hbr,rfl⟩:=hx.tw hk hm;have Sf:=hbr.n;have xi:=hbr.nc;have vA:∃A n c,B.sv=.slice A n c/\n=mb.es.length/\n<=c/\c<=maxLen/\(0<n->B.z=YZ/\A=YW ⟨B.b,0,YX⟩)/\(B.z=YZ->A=YW ⟨B.b,0,YX⟩/\c=B.c):=by
    cases hz:B.z with
    |true=>exact⟨YX,0,0,by simp[qt.sv,hz],by rw[hbr.nil hz];rfl,Yn,Yn,Yn,λh=>nomatch h⟩
    |false=>exact⟨_,_,_,by simp[qt.sv,hz],Sf,xi,hbr.cm,λ_=>⟨rfl,rfl⟩,λ_=>⟨rfl,rfl⟩⟩
   obtain⟨A,n,c,Pn,hn,Zhj,KP,hA,hA0⟩:=vA;rw[Pn];have hb:=jR (P:=P) (isS:=YY) (len:=n) (cap:=c) (l:=l) (h:=hh) (Bo:=Bo) (Bn:=Bn) Yr Yr a1 a2 Yn Zhj;refine⟨_,_,hK,λw'=>se hu nj hs (hb w'),.ss _ _ _ _ (mi hk hm) rfl λB' nK=>?_⟩
   rw[hB]at nK;cases nK;refine⟨⟨_,_,rfl,Yn,Yn,λbX=>?_⟩,λIZ hz=>by
    obtain⟨rfl,rfl⟩:=hA0 hz;exact⟨_,by rw[IZ,XQ,Nat.sub_zero];split<;>rfl⟩⟩
   obtain⟨hz,hA'⟩:=hA Yn;refine⟨hz,?_,Yn,Yn⟩;rw[if_neg Yn];have:(⟨B.b,0,YX⟩:Addr).add (l.toNat*P.cellsOf e)=⟨B.b,l.toNat*B.k,YX⟩:=by rw[hbr.k];unfold Addr.add;grind
   grind
  grind
 ·rename_i e r a b hu
  obtain⟨mb,hm,h⟩:=iM h
  split at h
  ·rename_i l hh e1 e2
   obtain⟨a1,a2,a3,ib,Ph,hK⟩:=h;have b1:=rB e1 h1 h1n;have b2:=rB e2 h2 h2n;obtain⟨i,nj,hs⟩:=kg ib;have hx0:a=0->∃B,E.β r=YW B/\(B.z=YZ->x=.slice (YW ⟨B.b,0,YX⟩) b B.c):=λh0=>by
    subst h0;obtain⟨B,hB,_,_,h,_⟩:=hx.Oa hk hm
    grind
   obtain⟨B,hB,hbr,A,c,rfl,CK,hbB,hA⟩:=hx.An hk hm;have Pq:a=0->B.z=YZ->A=YW ⟨B.b,0,YX⟩/\c=B.c:=λh0 hz=>by
    grind
   rcases Wv a b with bX|ze
   ·obtain⟨hz,rfl,CL,Hp⟩:=hA bX
    have hb:=jR (P:=P) (isS:=YY) (len:=b-a) (cap:=c) (l:=l) (h:=hh) (Bo:=Bo) (Bn:=Bn) Yr Yr a1 a2 a3 CL;refine⟨_,_,hK,λw'=>se hu nj hs (hb w'),.ss _ _ _ _ (mi hk hm) rfl λB' nK=>?_⟩
    rw[hB]at nK;cases nK;refine⟨⟨_,_,by congr 1;omega,Yn,Yn,λZda=>?_⟩,λIZ hz=>by
     obtain⟨e1,rfl⟩:=Pq Yn hz;have e0:l.toNat=0:=Yn;exact⟨_,by rw[e0,XQ,Nat.sub_zero,e1];split<;>rfl⟩⟩
    refine⟨hz,?_,Yn,Yn⟩;rw[if_neg Yn];have:(⟨B.b,a*B.k,YX⟩:Addr).add (l.toNat*P.cellsOf e)=⟨B.b,(a+l.toNat)*B.k,YX⟩:=by
     rw[hbr.k,Ph,Xk];unfold Addr.add;simp
    grind
   ·have IZ:l=0:=Yn
    have hh0:hh=0:=Yn;subst IZ hh0;have hba:b-a=0:=Yn;rw[hba];have hb:=jR (P:=P) (isS:=YY) (len:=0) (cap:=c) (l:=0) (h:=0) (Bo:=Bo) (Bn:=Bn) Yr Yr Yn Yn Yn (Ww _);refine⟨_,_,hK,λw'=>se hu nj hs (hb w'),.ss _ _ _ _ (mi hk hm) rfl λB' nK=>?_⟩
    rw[hB]at nK;cases nK;exact⟨⟨_,_,by congr 1;simp,Yn,Yn,λZda=>Yn⟩,λIZ hz=>by
     obtain⟨rfl,rfl⟩:=Pq Yn hz;exact⟨_,by simp only[Int.toNat_zero,XQ,Nat.sub_zero];split<;>rfl⟩⟩
  grind
 ·rename_i e hu
  split at h
  ·rename_i l hh e1 e2
   obtain⟨a1,a2,a3,ib,hK⟩:=h;have b1:=rB e1 h1 h1n;have b2:=rB e2 h2 h2n;obtain⟨i,nj,hs⟩:=kg ib;obtain⟨rfl,_⟩:=hx.iz;have hh0:hh=0:=Yn;have hb:=jR (P:=P) (isS:=YY) (len:=0) (cap:=0) (l:=0) (h:=0) (Bo:=Bo) (Bn:=Bn) Yr Yr Yn Yn Yn (Ww _);exact⟨_,_,hK,λw'=>se hu nj hs (hb w'),.c (.nil _ _)⟩
  grind
 grind
def Ek(m:Mem)(x:PV)(K:PV->Prop):Prop:=
 match x with
 |.be l i o=>live m l λ_=>K (.be l i o)
 |.rp cs=>K (.rp cs)
 |_=>False
def kX(P:Program)(m:Mem)(S:TypeId)(x:PV)(f:Nat)(K:PV->Prop):Prop:=
 match P.underlying S with
 |some (.struct fs)=>match fs[f]? with
  |some fd=>0<P.cellsOf fd.type/\match x with
   |.be l i o=>live m l λ_=>K (.be l i (o+fd.offset))
   |.rp cs=>K (.rp (cs.drop fd.offset))
   |_=>False
  |none=>False
 |_=>False
theorem Ac(hk:Ok w0 O E w m){S:TypeId}{p:PV}{f:Nat}(hx:dG w E p x){K:PV->Prop}(h:kX P m S p f K):
 ∃r v,K r/\(∀w',(Instr.fieldAt S x f).run P w'=.ok v w')/\dG w E r v:=by
 unfold kX at h
 split at h
 ·rename_i fs hu
  split at h
  ·rename_i fd hf
   obtain⟨ib,h⟩:=h;obtain⟨i,hi,hs⟩:=kg ib;have gZ:¬i.size=0:=Yn;have run:∀b o w',(Instr.fieldAt S (.pointer (YW ⟨b,o,YX⟩)) f).run P w'=.ok (.pointer (YW ⟨b,o+fd.offset,YX⟩)) w':=by
    intro b o w';have ea:(⟨b,o,YX⟩:Addr).add fd.offset=⟨b,o+fd.offset,YX⟩:=by unfold Addr.add;simp
    simp[Instr.fieldAt,run_underlying hu,hf,Instr.sureAddr,fieldPlace,run_sizeOf hi,gZ,ea]
   split at h
   ·obtain⟨mb,hm,hK⟩:=iM h
    obtain⟨B,hB,hb,hz,rfl⟩:=hx.Cb hk hm;exact⟨_,_,hK,run _ _,.be _ _ _ _ (mi hk hm) rfl λB' nK=>by grind⟩
   ·cases hx.ME with
    |rp _ b off u hS hc h1 hr=>
     refine⟨_,_,h,run _ _,.c (.rp _ b (off+fd.offset) (λj=>u (fd.offset+j)) hS (λj p hj=>?_) (λj p hj=>?_) λj p hj=>?_)⟩
     all_goals grind
   grind
  grind
 grind
def vN(P:Program)(S:TypeId)(x:PV)(f:Nat)(K:PV->Prop):Prop:=
 match P.underlying S with
 |some (.struct fs)=>match fs[f]?,x with
  |some fd,.ag cs=>rX P fd.type (YW (cs.drop fd.offset)) K
  |_,_=>False
 |_=>False
theorem GG{S:TypeId}{p:PV}{f:Nat}(hx:dG w E p x){K:PV->Prop}(h:vN P S p f K):
 ∃r v,K r/\(∀w',(Instr.field S x f).run P w'=.ok v w')/\dG w E r v:=by
 unfold vN at h
 split at h
 ·rename_i fs hu
  split at h
  ·rename_i fd cs hf
   obtain⟨vs,rfl,hl,h1,hr⟩:=hx.qx;obtain⟨r,v,hK,kv,tv⟩:=L6 h hl h1 hr;exact⟨r,v,hK,λw'=>by simp[Instr.field,run_underlying hu,hf,asAgg,kv],tv⟩
  grind
 grind
def cR(P:Program)(m:Mem)(T:TypeId)(x i:PV)(K:PV->Prop):Prop:=
 match P.underlying T,i with
 |some (.slice e),.v (.int _ n)=>match x with
  |.sl es=>0<=n/\n<es.length/\0<P.cellsOf e/\(es.getD n.toNat []).length=P.cellsOf e/\K (.rp (es.getD n.toNat []))
  |.ms l=>live m l λmb=>0<=n/\n<mb.es.length/\mb.k=P.cellsOf e/\K (.be l n.toNat 0)
  |.ss l a b=>live m l λmb=>0<=n/\n<(b-a:Nat)/\mb.k=P.cellsOf e/\K (.be l (a+n.toNat) 0)
  |_=>False
 |_,_=>False
theorem Ae(hk:Ok w0 O E w m){p q:PV}(hx:dG w E p x)(hy:dG w E q y){K:PV->Prop}(h:cR P m T p q K):
 ∃r v,K r/\(∀w',(Instr.indexAt T x y).run P w'=.ok v w')/\dG w E r v:=by
 unfold cR at h
 split at h
 ·rename_i e kk n hu
  obtain⟨rfl,_⟩:=hy.iz
  split at h
  ·rename_i es
   obtain⟨a1,a2,ib,hlen,hK⟩:=h;obtain⟨i,hi,hs⟩:=kg ib;have ze:es[n.toNat]?=YW (es.getD n.toNat []):=by simp_all
   cases hx.uL with
   |nil A c=>grind
   |sl _ b off k c u hS hkp xi hm xh hc h1 hr=>
    have hek:k=P.cellsOf e:=(xh _ _ ze).symm.trans hlen;have ea:(⟨b,off,YX⟩:Addr).add (n.toNat*P.cellsOf e)=⟨b,off+n.toNat*k,YX⟩:=by rw[hek];unfold Addr.add;simp
    refine⟨_,.pointer (YW ⟨b,off+n.toNat*k,YX⟩),hK,λw'=>?_,.c (.rp _ b (off+n.toNat*k) (λj=>u n.toNat j) hS (λj p hj=>hc _ _ j p ze hj) (λj p hj=>h1 _ _ j p ze hj) λj p hj=>hr _ _ j p ze hj)⟩
    simp[Instr.indexAt,asIntOf,run_underlying hu,a1,a2,run_sizeOf hi,hs,ea]
  ·obtain⟨mb,hm,a1,a2,Ph,hK⟩:=iM h
   obtain⟨B,hB,hb,rfl⟩:=hx.tw hk hm;have hz:=hb.Zb0 Yn;have ib:0<P.cellsOf e:=by rw[<-Ph,<-hb.k];exact hb.pos
   obtain⟨i,hi,hs⟩:=kg ib;have ea:(⟨B.b,0,YX⟩:Addr).add (n.toNat*P.cellsOf e)=⟨B.b,n.toNat*B.k,YX⟩:=by rw[hb.k];unfold Addr.add;grind
   refine⟨_,.pointer (YW ⟨B.b,n.toNat*B.k,YX⟩),hK,λw'=>?_,.be _ _ _ _ (mi hk hm) rfl λB' nK=>by grind⟩
   have a2':n<(B.n:Int):=by rw[hb.n];omega
   simp[qt.sv,hz,Instr.indexAt,asIntOf,run_underlying hu,a1,a2',run_sizeOf hi,hs,ea]
  ·rename_i l a b
   obtain⟨mb,hm,a1,a2,Ph,hK⟩:=iM h;obtain⟨B,hB,hb,A,c,rfl,CK,hbB,hA⟩:=hx.An hk hm;obtain⟨hz,rfl,_,_⟩:=hA Yn;have ib:0<P.cellsOf e:=by rw[<-Ph,<-hb.k];exact hb.pos
   obtain⟨i,hi,hs⟩:=kg ib;have ea:(⟨B.b,a*B.k,YX⟩:Addr).add (n.toNat*P.cellsOf e)=⟨B.b,(a+n.toNat)*B.k,YX⟩:=by rw[hb.k,Ph,Xk];unfold Addr.add;simp
   refine⟨_,.pointer (YW ⟨B.b,(a+n.toNat)*B.k,YX⟩),hK,λw'=>?_,.be _ _ _ _ (mi hk hm) rfl λB' nK=>by grind⟩
   simp[Instr.indexAt,asIntOf,run_underlying hu,a1,a2,run_sizeOf hi,hs,ea]
  grind
 grind
def zu(s:ByteArray)(i:Nat):Int:=((s[i]?).map (·.toNat)).getD 0
def sK(P:Program)(T:TypeId)(x i:PV)(K:PV->Prop):Prop:=
 match P.underlying T,x,i with
 |some .string,.v (.string s),.v (.int _ n)=>0<=n/\n<s.size/\K (.v (.int .u8 (zu s n.toNat)))
 |_,_,_=>False
theorem GH{p q:PV}(hx:dG w E p x)(hy:dG w E q y){K:PV->Prop}(h:sK P T p q K):
 ∃r v,K r/\(∀w',(Instr.index T x y).run P w'=.ok v w')/\dG w E r v:=by
 unfold sK at h
 split at h
 ·rename_i s kk n hu
  obtain⟨rfl,_⟩:=hx.iz;obtain⟨rfl,_⟩:=hy.iz;obtain⟨a1,a2,hK⟩:=h;have hn:n.toNat<s.size:=Yn;refine⟨_,.int .u8 (zu s n.toNat),hK,λw'=>?_,.c (.v _ rfl)⟩
  simp[Instr.index,asIntOf,run_underlying hu,a1,zu,hn]
 grind
def JM(i:Nat)(x:PV)(K:PV->Prop):Prop:=
 match x with
 |.tu vs=>match vs[i]? with
  |some p=>K p
  |none=>False
 |_=>False
theorem L3{p:PV}(hx:dG w E p x){K:PV->Prop}(h:JM i p K):∃r v,K r/\(∀w',(Instr.extract x i).run P w'=.ok v w')/\dG w E r v:=by
 unfold JM at h
 split at h
 ·split at h
  ·rename_i q hq
   obtain⟨us,rfl,hl,hr⟩:=hx.xI;have hi:i<us.size:=by grind
   exact⟨q,us[i],h,λw'=>by simp[Instr.extract,V7 hi],hr i q _ hq (V7 hi)⟩
  grind
 grind
def wO(P:Program)(m:Mem)(T:TypeId)(x:PV)(K:PV->Prop):Prop:=
 match P.underlying T,x with
 |some .string,.v (.string s)=>K (.v (Y1 Y2 s.size))
 |some (.slice _),.v (.slice YX n _)=>K (.v (Y1 Y2 n))
 |some (.slice _),.sl es=>K (.v (Y1 Y2 es.length))
 |some (.slice _),.ms l=>live m l λmb=>K (.v (Y1 Y2 mb.es.length))
 |some (.slice _),.ss l a b=>live m l λ_=>K (.v (Y1 Y2 (b-a:Nat)))
 |_,_=>False
theorem L5(hk:Ok w0 O E w m){p:PV}(hx:dG w E p x){K:PV->Prop}(h:wO P m T p K):∃r v,K r/\(∀w',(Builtin.len_ #[T] ty #[x]).run P w'=.ok v w')/\dG w E r v:=by
 unfold wO at h
 split at h
 ·rename_i s hu
  obtain⟨rfl,_⟩:=hx.iz;exact⟨_,_,h,λw'=>by simp[Builtin.len_,run_underlying hu,goInt],.c (.v _ rfl)⟩
 ·rename_i e n c hu
  obtain⟨rfl,_⟩:=hx.iz;exact⟨_,_,h,λw'=>by simp[Builtin.len_,run_underlying hu,goInt],.c (.v _ rfl)⟩
 ·rename_i e es hu
  cases hx.uL with
  |nil A c=>exact⟨_,_,h,λw'=>by simp[Builtin.len_,run_underlying hu,goInt],.c (.v _ rfl)⟩
  |sl=>exact⟨_,_,h,λw'=>by simp[Builtin.len_,run_underlying hu,goInt],.c (.v _ rfl)⟩
 ·rename_i e l hu
  obtain⟨mb,hm,hK⟩:=iM h;obtain⟨B,hB,hb,rfl⟩:=hx.tw hk hm;refine⟨_,_,hK,λw'=>?_,.c (.v _ rfl)⟩
  cases hz:B.z with
  |true=>simp[qt.sv,hz,Builtin.len_,run_underlying hu,goInt,hb.nil hz]
  |false=>simp[qt.sv,hz,Builtin.len_,run_underlying hu,goInt,hb.n]
 ·rename_i e l a b hu
  obtain⟨mb,hm,hK⟩:=iM h;obtain⟨B,hB,hb,A,c,rfl,_,_,_⟩:=hx.An hk hm;exact⟨_,_,hK,λw'=>by simp[Builtin.len_,run_underlying hu,goInt],.c (.v _ rfl)⟩
 grind
end
def py(w:World)(E:Env)(cs:List PV)(a:Array Value):Prop:=
 a.size=cs.length/\∀(j:Nat) (p:PV),cs[j]?=YW p->∃x,a[j]?=YW x/\x.oneCell'=YY/\dG w E p x
def xF(cs:List PV)(off:Nat)(qs:List PV):List PV:=cs.take off++qs++cs.drop (off+qs.length)
def wS(place:Nat->Option (Nat×Nat)):List PV->List (Nat×PV)->Option (List PV)
 |cs,[]=>YW cs
 |cs,(i,p)::rest=>match place i,pc p with
  |some (off,size),YW qs=>if qs.length=size/\off+qs.length<=cs.length then wS place (xF cs off qs) rest else YX
  |_,_=>YX
section
variable {w:World} {O:Nat->Prop} {E:Env} {w0:World} {m:Mem} {P:Program}
theorem vT{cs qs:List PV}(h:off+qs.length<=cs.length):(xF cs off qs).length=cs.length:=by
 simp[xF];omega
theorem DI{cs qs:List PV}(h:off+qs.length<=cs.length)(j:Nat):(xF cs off qs)[j]?=if off<=j/\j<off+qs.length then qs[j-off]? else cs[j]?:=by
 have hl:(cs.take off).length=off:=by grind
 unfold xF
 grind
theorem O6(qs:List Value):∀(i off:Nat) (a:Array Value),((qs.zipIdx i).foldl (λcs (c,j)=>cs.setIfInBounds (off+j) c) a).size=a.size/\
 ∀j,((qs.zipIdx i).foldl (λcs (c,j)=>cs.setIfInBounds (off+j) c) a)[j]?=if off+i<=j/\j<off+i+qs.length/\j<a.size then qs[j-(off+i)]? else a[j]?:=by
 induction qs with
 |nil=>intro i off a;exact⟨rfl,λj=>by simp;omega⟩
 |cons q qs ih=>
  intro i off a;simp;obtain⟨h1,h2⟩:=ih (i+1) off (a.setIfInBounds (off+i) q)
  grind
theorem Cz{place:Nat->Option (Nat×Nat)}:∀(ps:List (Nat×PV)) (vs:List (Nat×Value)) (cs qy:List PV) (a:Array Value),py w E cs a->wS place cs ps=YW qy->
 ps.length=vs.length->(∀(j i:Nat) (p:PV),ps[j]?=YW (i,p)->∃x,vs[j]?=YW (i,x)/\dG w E p x)->∃a',Instr.fill place a vs=YW a'/\py w E qy a'
 | [],[],cs,qy,a,h,hf,_,_=>by
  simp only[wS,V6]at hf
  subst hf;exact⟨a,rfl,h⟩
 | [],_::_,_,_,_,_,_,hl,_=>by grind
 |_::_,[],_,_,_,_,_,hl,_=>by grind
 |(i,p)::ps,(i',x)::vs,cs,qy,a,h,hf,hl,hr=>by
  obtain⟨x',uq,tv⟩:=hr 0 i p rfl;simp only[List.getElem?_cons_zero,V6,Prod.mk.injEq]at uq
  obtain⟨rfl,rfl⟩:=uq;simp only[wS]at hf
  split at hf
  ·rename_i off size qs hp hq
   simp only[WT]at hf
   obtain⟨⟨h1,h2⟩,hf⟩:=hf;obtain⟨c1,c2⟩:=GN tv hq;have Ze3:¬((x.cells.size≠size ||off+x.cells.size > a.size)=YY):=by
    rw[c1,h1,h.1];simp_all
   obtain⟨f1,f2⟩:=O6 x.cells.toList 0 off a;have e:x.cells.zipIdx.foldl (λcs (x:Value×Nat)=>cs.setIfInBounds (off+x.2) x.1) a=(x.cells.toList.zipIdx 0).foldl (λcs (c,j)=>cs.setIfInBounds (off+j) c) a:=by
    rw[<-Array.foldl_toList,Array.toList_zipIdx]
   have Zdc:py w E (xF cs off qs) ((x.cells.toList.zipIdx 0).foldl (λcs (c,j)=>cs.setIfInBounds (off+j) c) a):=by
    refine⟨by rw[f1,h.1,vT h2],λj q hj=>?_⟩
    rw[DI h2]at hj
    rw[f2 j,Nat.add_zero]
    by_cases c:off<=j/\j<off+qs.length
    ·grind
    ·rw[if_neg c]at hj
     obtain⟨y,y1,y2,y3⟩:=h.2 j q hj
     grind
   obtain⟨a',e1,e2⟩:=Cz ps vs _ qy _ Zdc hf Yv λj i p hj=>by
    obtain⟨x,hx,hxr⟩:=hr (j+1) i p Yv
    grind
   refine⟨a',?_,e2⟩;simp only[Instr.fill,hp,Ze3,if_false,Bool.false_eq_true]
   simp_all
  simp_all
def zeroOf(P:Program)(t:TypeId):Option Value:=(P.info? t).bind (·.zero)
def pz(P:Program)(t:TypeId):Option (List PV):=(zeroOf P t).bind λz=>pc (Za1 z)
theorem Ah{cs:List PV}(h:pz P t=YW cs):∃i z,P.info? t=YW i/\i.zero=YW z/\py w E cs z.cells:=by
 unfold pz zeroOf at h
 cases hi:P.info? t with
 |none=>simp_all
 |some i=>
  cases hz:i.zero with
  |none=>simp_all
  |some z=>
   simp[hi,hz]at h
   exact⟨i,z,rfl,hz,GN (JT z) h⟩
theorem DG{i:TypeInfo}{z:Value}(hi:P.info? t=YW i)(hz:i.zero=YW z)(w':World):(zeroValue t).run P w'=.ok z w':=by
 simp[zeroValue,typeInfo,hi,hz]
def vM(P:Program)(T:TypeId)(ps:List (Nat×PV))(K:PV->Prop):Prop:=
 match P.underlying T with
 |some (.struct fs)=>(∀fd∈fs.toList,0<P.cellsOf fd.type)/\match pz P T with
  |some zc=>match wS (λi=>(fs[i]?).map λfd=>(fd.offset,P.cellsOf fd.type)) zc ps with
   |some cs=>K (.ag cs)
   |none=>False
  |none=>False
 |_=>False
theorem py.ag{cs:List PV}{a:Array Value}(h:py w E cs a):dG w E (.ag cs) (.agg a):=by
 refine .ag cs a h.1 (λj x hx=>?_) λj p x hp hx=>?_
 ·have hj:j<cs.length:=by rw[<-h.1];grind
  obtain⟨y,h1,h2,_⟩:=h.2 j _ (VV hj)
  grind
 ·obtain⟨y,h1,_,h3⟩:=h.2 j p hp
  grind
theorem run_places{fs:Array Field}(h:∀fd∈fs.toList,0<P.cellsOf fd.type)(w':World):
 (fs.mapM fun(f:Field)=>(do pure (f.offset,<-sizeOf f.type):Sem (Nat×Nat))).run P w'=.ok (fs.map λfd=>(fd.offset,P.cellsOf fd.type)) w':=by
 rw[Array.mapM_eq_mapM_toList];have key:∀l:List Field,(∀fd∈l,0<P.cellsOf fd.type)->(l.mapM fun(f:Field)=>(do pure (f.offset,<-sizeOf f.type):Sem (Nat×Nat))).run P w'=.ok (l.map λfd=>(fd.offset,P.cellsOf fd.type)) w':=by
  intro l
  induction l with
  |nil=>simp
  |cons f l ih=>
   intro hl;obtain⟨i,hi,hs⟩:=kg (hl f Yq);have:=ih λfd hfd=>hl fd Yr
   simp only[List.mapM_cons,Sem.run_bind,run_sizeOf hi,Result.andThen_ok,Sem.run_pure,this,hs,List.map_cons]
 have k:=key fs.toList h;rw[Sem.run_map];refine(congrArg (λr=>Result.andThen r fun(a:List (Nat×Nat)) w'=>Result.ok a.toArray w') k).trans ?_
 show Result.ok _ _=_
 congr 1
 grind
theorem GC{ps:List (Nat×PV)}{vs:Array (Nat×Value)}(hl:ps.length=vs.size)(hr:∀(j i:Nat) (p:PV),ps[j]?=YW (i,p)->∃x,vs[j]?=YW (i,x)/\dG w E p x){K:PV->Prop}(h:vM P T ps K):
 ∃r v,K r/\(∀w',(Instr.build T vs).run P w'=.ok v w')/\dG w E r v:=by
 unfold vM at h
 split at h
 ·rename_i fs hu
  obtain⟨ib,h⟩:=h
  split at h
  ·rename_i zc hz
   split at h
   ·rename_i cs hf
    obtain⟨i,z,hi,u4,hc⟩:=Ah (w:=w) (E:=E) hz;obtain⟨a',e1,e2⟩:=Cz ps vs.toList zc cs z.cells hc hf Yn λj i p hj=>by simp_all
    refine⟨_,.agg a',h,λw'=>?_,e2.ag⟩
    simp only[Instr.build,Sem.run_bind,DG hi u4,run_underlying hu,Result.andThen_ok,run_places ib w'];simp[e1]
   simp_all
  simp_all
 simp_all
end
section
variable {w:World} {O:Nat->Prop} {E:Env} {w0:World} {m:Mem} {P:Program}
def vc(P:Program)(w0:World)(O:Nat->Prop)(E:Env)(w:World)(ν:Nat)(s:Sem Value)(p:PV)(m':Mem):Prop:=
 ∃x w' E',s.run P w=.ok x w'/\Ok w0 O E' w' m'/\Ext w w' E E'/\dG w' E' p x/\∀l,E'.used l->E.used l\/l=ν
theorem FV{cs:List PV}{a:Array Value}(h:py w E cs a)(T:TK):∀(i:Nat) (ds:List PV) (j:Nat) (p:PV),(MB.mk T cs.length [cs]).es[i]?=YW ds->ds[j]?=YW p->
 ∃x,a[i*cs.length+j]?=YW x/\x.oneCell'=YY/\dG w E p x:=by
 intro i ds j p hi hj
 cases i with
 |zero=>
  obtain rfl:cs=ds:=by grind
  simpa using h.2 j p hj
 |succ i=>grind
theorem zF(hk:Ok w0 O E w m)(wq:¬E.used ν){mb:MB}{c:Nat}{a:Array Value}(hkd:mb.T.kd=YX)(ib:0<mb.k)(hn:mb.es.length<=c)(hc:c<=maxLen)(xh:∀(i:Nat) (cs:List PV),mb.es[i]?=YW cs->cs.length=mb.k)(hs:a.size=c*mb.k)
 (hr:∀(i:Nat) (cs:List PV) (j:Nat) (p:PV),mb.es[i]?=YW cs->cs[j]?=YW p->∃x,a[i*mb.k+j]?=YW x/\x.oneCell'=YY/\dG w E p x):
 ∃E',Ok w0 O E' (w.alloc (.cells a mb.T.t (0,0))) (oS m ν mb)/\Ext w (w.alloc (.cells a mb.T.t (0,0))) E E'/\
  dG (w.alloc (.cells a mb.T.t (0,0))) E' (.ms ν) (.slice (YW ⟨w.heap.size,0,YX⟩) mb.es.length c)/\
  dG (w.alloc (.cells a mb.T.t (0,0))) E' (.be ν 0 0) (.pointer (YW ⟨w.heap.size,0,YX⟩))/\∀l,E'.used l->E.used l\/l=ν:=by
 have uV:(w.alloc (.cells a mb.T.t (0,0))).heap.size=w.heap.size+1:=by simp
 obtain⟨h1,h2⟩:=hk.new (w':=w.alloc (.cells a mb.T.t (0,0))) wq mb ⟨w.heap.size,c,mb.es.length,mb.k,mb.T.t,YZ⟩ rfl rfl rfl Yn (λb hb=>heap_alloc_old _ _ hb) (λ_=>⟨VY _,by simp⟩)
  λhx=>⟨rfl,rfl,rfl,ib,hn,hc,xh,(λh=>by cases h),λ_=>⟨a,heap_alloc_new w _,hs,λi cs j p hi hj=>by
   obtain⟨x,x1,x2,x3⟩:=hr i cs j p hi hj;exact⟨x,x1,x2,x3.ext hx⟩⟩,λT hT=>by simp_all⟩
 refine⟨_,h1,h2,.ms _ _ (.inl rfl) rfl λB hB=>?_,.be _ _ _ _ (.inl rfl) rfl λB hB=>?_,λl hl=>hl.symm⟩
 ·have e:B=⟨w.heap.size,c,mb.es.length,mb.k,mb.T.t,YZ⟩:=by simpa[Env.add,eq_comm]using hB
  subst e;rfl
 ·have e:B=⟨w.heap.size,c,mb.es.length,mb.k,mb.T.t,YZ⟩:=by simpa[Env.add,eq_comm]using hB
  simp_all
def Aa(ν:Nat)(m:Mem)(T:TypeId)(cs:Option (List PV))(K:PV->Mem->Prop):Prop:=
 match cs with
 |some (c::cs)=>K (.be ν 0 0) (oS m ν ⟨T,(c::cs).length,[c::cs]⟩)
 |_=>False
theorem Dh(hk:Ok w0 O E w m)(wq:¬E.used ν){cs:List PV}(hc:py w E cs x.cells){K:PV->Mem->Prop}(h:Aa ν m T (YW cs) K):∃p m',K p m'/\vc P w0 O E w ν (do pure (.pointer (YW (<-newVar T x)))) p m':=by
 unfold Aa at h
 split at h
 ·rename_i c qy e
  obtain rfl:cs=c::qy:=by grind
  obtain⟨E',h1,h2,_,h4,h5⟩:=zF (mb:=⟨T,(c::qy).length,[c::qy]⟩) (c:=1) hk wq rfl Yq Yq YF (λi ds hi=>by
   grind) (by rw[hc.1];simp) (FV hc T)
  exact⟨_,_,h,.pointer (YW ⟨w.heap.size,0,YX⟩),_,E',by rfl,h1,h2,h4,h5⟩
 simp_all
theorem L2(hk:Ok w0 O E w m)(wq:¬E.used ν){p:PV}(hx:dG w E p x){K:PV->Mem->Prop}(h:Aa ν m T (pc p) K):∃p m',K p m'/\vc P w0 O E w ν (Instr.box T x) p m':=by
 cases hp:pc p with
 |none=>rw[hp]at h;exact h.elim
 |some cs=>rw[hp]at h;exact Dh hk wq (GN hx hp) h
theorem GA(hk:Ok w0 O E w m)(wq:¬E.used ν){K:PV->Mem->Prop}(h:Aa ν m T (pz P T) K):∃p m',K p m'/\vc P w0 O E w ν (Instr.alloc T YY (.tuple #[])) p m':=by
 cases hp:pz P T with
 |none=>rw[hp]at h;exact h.elim
 |some cs=>
  rw[hp]at h
  obtain⟨i,z,hi,hz,hc⟩:=Ah (w:=w) (E:=E) hp;obtain⟨p,m',hK,x,w',E',kv,r⟩:=Dh (P:=P) hk wq hc h;refine⟨p,m',hK,x,w',E',?_,r⟩;simp[Instr.alloc,DG hi hz];exact kv
def w9(zc:List PV):Nat->List PV
 |0=>[]
 |n+1=>zc++w9 zc n
def chunk(k:Nat):Nat->List PV->List (List PV)
 |0,_=>[]
 |n+1,cs=>cs.take k::chunk k n (cs.drop k)
theorem uS(zc:List PV)(n:Nat):(w9 zc n).length=n*zc.length:=by
 induction n with
 |zero=>simp[w9]
 |succ n ih=>simp[w9,Xm];omega
theorem QO{zc:List PV}{p:PV}(h:(w9 zc n)[j]?=YW p):zc[j % zc.length]?=YW p:=by
 induction n generalizing j with
 |zero=>simp[w9]at h
 |succ n ih=>
  simp only[w9]at h
  rcases Wv j zc.length with hj|hj
  ·rw[Wu hj]at h
   rwa[XY hj]
  ·rw[WO hj]at h
   have:=ih h
   rwa[Nat.mod_eq_sub_mod hj]
theorem uy(k n:Nat)(cs:List PV):(chunk k n cs).length=n:=by
 induction n generalizing cs with
 |zero=>rfl
 |succ n ih=>simp[chunk,ih]
theorem Ez{cs ds:List PV}(h:(chunk k n cs)[i]?=YW ds):ds=(cs.drop (i*k)).take k:=by
 induction n generalizing cs i with
 |zero=>simp[chunk]at h
 |succ n ih=>
  cases i with
  |zero=>simpa[chunk,eq_comm]using h
  |succ i=>
   have:=ih (i:=i) (by simpa[chunk]using h)
   rw[this,List.drop_drop,Xm,Xv]
theorem ON{cs:List PV}{a:Array Value}(hk:0<k)(h:py w E cs a)(hl:cs.length=n*k):(∀(i:Nat) (ds:List PV),(chunk k n cs)[i]?=YW ds->ds.length=k)/\
 ∀(i:Nat) (ds:List PV) (j:Nat) (p:PV),(chunk k n cs)[i]?=YW ds->ds[j]?=YW p->∃x,a[i*k+j]?=YW x/\x.oneCell'=YY/\dG w E p x:=by
 have bX:∀{i:Nat} {ds:List PV},(chunk k n cs)[i]?=YW ds->i<n:=λhi=>by
  have:=(VU.1 hi).1
  rwa[uy]at this
 refine⟨λi ds hi=>?_,λi ds j p hi hj=>?_⟩
 ·have vz:=bX hi
  rw[Ez hi];have this:=Wa k vz
  grind
 ·rw[Ez hi,List.getElem?_take]at hj
  split at hj
  ·rw[List.getElem?_drop]at hj
   exact h.2 _ p hj
  simp_all
def na(P:Program)(ν:Nat)(m:Mem)(T:TypeId)(n:Nat)(ps:List (Nat×PV))(K:PV->Mem->Prop):Prop:=
 match P.underlying T with
 |some (.slice e)=>match pz P e with
  |some zc=>0<P.cellsOf e/\zc.length=P.cellsOf e/\n*P.cellsOf e<=16777216/\match wS (λi=>YW (i*P.cellsOf e,P.cellsOf e)) (w9 zc n) ps with
   |some cs=>K (.ms ν) (oS m ν ⟨e,P.cellsOf e,chunk (P.cellsOf e) n cs⟩)
   |none=>False
  |none=>False
 |_=>False
theorem yg{place:Nat->Option (Nat×Nat)}:∀(ps:List (Nat×PV)) (cs qy:List PV),wS place cs ps=YW qy->qy.length=cs.length
 | [],cs,qy,h=>by simp only[wS,V6]at h;rw[h]
 |(i,p)::ps,cs,qy,h=>by
  simp only[wS]at h
  split at h
  ·simp at h
   rw[yg ps _ _ h.2,vT h.1.2]
  grind
theorem yJ(hk:Ok w0 O E w m)(wq:¬E.used ν){ps:List (Nat×PV)}{vs:Array (Nat×Value)}(hl:ps.length=vs.size)
 (hr:∀(j i:Nat) (p:PV),ps[j]?=YW (i,p)->∃x,vs[j]?=YW (i,x)/\dG w E p x) {K:PV->Mem->Prop} (h:na P ν m T n ps K):∃p m',K p m'/\vc P w0 O E w ν (Instr.buildSlice T n vs) p m':=by
 unfold na at h
 split at h
 ·rename_i e hu
  split at h
  ·rename_i zc hz
   obtain⟨ib,zj,yj,h⟩:=h
   split at h
   ·rename_i cs hf
    obtain⟨i,z,hi,u4,hc⟩:=Ah (w:=w) (E:=E) hz;have QU:i.size=P.cellsOf e:=by simp[Program.cellsOf,hi]
    have h0:py w E (w9 zc n) ((XV (n*i.size)).map (z.cells[· % z.cells.size]!)):=by
     refine⟨by rw[uS,zj,QU];simp,λj p hj=>?_⟩
     have Bc:=(VU.1 hj).1;rw[uS,zj]at Bc
     obtain⟨x,x1,x2,x3⟩:=hc.2 _ p (QO hj);rw[<-hc.1]at x1
     grind
    obtain⟨a',e1,e2⟩:=Cz ps vs.toList _ cs _ h0 hf Yn λj i p hj=>by simp_all
    have uo:cs.length=n*P.cellsOf e:=by rw[yg _ _ _ hf,uS,zj]
    obtain⟨r1,r2⟩:=ON ib e2 uo;obtain⟨E',h1,h2,h3,_,h5⟩:=zF (mb:=⟨e,P.cellsOf e,chunk (P.cellsOf e) n cs⟩) (c:=n) hk wq rfl ib (by simp[uy]) (by
     unfold maxLen;have:n*1<=n*P.cellsOf e:=Nat.mul_le_mul_left n ib;omega) r1 (by rw[e2.1,uo]) r2
    simp only[uy]at h3
    refine⟨_,_,h,_,_,E',?_,h1,h2,h3,h5⟩;have e3:Instr.fill (λj=>YW (j*i.size,i.size)) ((XV (n*i.size)).map (z.cells[· % z.cells.size]!)) vs.toList=YW a':=by simp_all
    have hnb:¬n*i.size > 2 ^ 24:=by simp_all
    by_cases hn0:n*i.size=0
    ·have e4:(XV (n*i.size)).map (z.cells[· % z.cells.size]!)=(XV (n*i.size)).map ((#[]:Array Value)[· % (#[]:Array Value).size]!):=by
      grind
     rw[e4]at e3
     simp only[Instr.buildSlice,Sem.run_bind,run_underlying hu,Result.andThen_ok,run_sizeOf hi,hnb,if_false,Sem.run_ite,hn0,if_true,Sem.run_pure];rw[hn0]at e3
     simp only[e3];rfl
    ·simp only[Instr.buildSlice,Sem.run_bind,run_underlying hu,Result.andThen_ok,run_sizeOf hi,hnb,if_false,Sem.run_ite,hn0,Sem.run_pure,DG hi u4,e3]
     rfl
   simp_all
  simp_all
 simp_all
end
section
variable {w:World} {O:Nat->Prop} {E:Env} {w0:World} {m:Mem} {P:Program}
def vO(P:Program)(ν:Nat)(m:Mem)(T:TypeId)(l c:PV)(K:PV->Mem->Prop):Prop:=
 match P.underlying T,l,c with
 |some (.slice e),.v (Y1 Y2 n),.v (Y1 Y2 n')=>match pz P e with
  |some zc=>n=n'/\0<=n/\0<P.cellsOf e/\zc.length=P.cellsOf e/\n<=1099511627776/\P.bytesOf e*n<=140737488355328/\K (.ms ν) (oS m ν ⟨e,P.cellsOf e,V8 n.toNat zc⟩)
  |none=>False
 |_,_,_=>False
theorem JN(hk:Ok w0 O E w m)(wq:¬E.used ν){p q:PV}(hx:dG w E p x)(hy:dG w E q y){K:PV->Mem->Prop}(h:vO P ν m T p q K):∃p m',K p m'/\vc P w0 O E w ν (Instr.makeSlice T x y) p m':=by
 unfold vO at h
 split at h
 ·rename_i e n n' hu
  obtain⟨rfl,_⟩:=hx.iz;obtain⟨rfl,_⟩:=hy.iz
  split at h
  ·rename_i zc hz
   obtain⟨rfl,h0,ib,zj,yj,qB,hK⟩:=h;obtain⟨i,z,hi,u4,hc⟩:=Ah (w:=w) (E:=E) hz;have QU:i.size=P.cellsOf e:=by simp[Program.cellsOf,hi]
   have hib:i.bytes=P.bytesOf e:=by simp[Program.bytesOf,hi]
   obtain⟨k,rfl⟩:∃k:Nat,n=(k:Int):=⟨n.toNat,Yn⟩;have hkb:i.bytes*k<=281474976710656:=by
    grind
   have kv:=run_mk T e i z hu hi u4 k hkb Yn w;have Gb:∀(i:Nat) (cs:List PV),(V8 k zc)[i]?=YW cs->i<k/\cs=zc:=by
    grind
   obtain⟨E',h1,h2,h3,_,h5⟩:=zF (mb:=⟨e,P.cellsOf e,V8 k zc⟩) (c:=k) (a:=madeCells z.cells (k*i.size)) hk wq rfl ib Yq YF
    (λi cs hi=>by grind) (by rw[QU];simp[madeCells]) (λi' cs j p nj hj=>by
     obtain⟨bX,rfl⟩:=Gb i' cs nj;obtain⟨x,x1,x2,x3⟩:=hc.2 j p hj;refine⟨x,?_,x2,x3⟩;have Bc:j<P.cellsOf e:=by grind
     have hzs:z.cells.size=P.cellsOf e:=by rw[hc.1,zj]
     have vz:i'*P.cellsOf e+j<k*i.size:=by
      rw[QU];have:(i'+1)*P.cellsOf e<=k*P.cellsOf e:=Wa _ bX
      grind
     have Zfj:(i'*P.cellsOf e+j) % z.cells.size=j:=by rw[hzs,Xv,X7,XY Bc]
     simp only[madeCells]
     simp_all)
   simp only[List.length_replicate]at h3
   have hK':K (.ms ν) (oS m ν ⟨e,P.cellsOf e,V8 k zc⟩):=by simp_all
   exact⟨_,_,hK',_,_,E',kv,h1,h2,h3,h5⟩
  simp_all
 simp_all
def vP(P:Program)(m:Mem)(T:TypeId)(a x:PV)(K:PV->Mem->Prop):Prop:=
 match a,pc x with
 |.be l i o,YW qs=>live m l λmb=>match mb.es[i]? with
  |some cs=>0<qs.length/\qs.length=P.cellsOf T/\o+qs.length<=cs.length/\K .ud (m.set l (YW ⟨mb.T.st qs,mb.k,mb.es.set i (xF cs o qs)⟩))
  |none=>False
 |_,_=>False
theorem N6(l vs:List Value)(O:Nat)(h:O+vs.length<=l.length)(j:Nat):(l.take O++vs++l.drop (O+vs.length))[j]?=if O<=j/\j<O+vs.length then vs[j-O]? else l[j]?:=by
 have hl:(l.take O).length=O:=by grind
 grind
theorem GK(hk:Ok w0 O E w m){p q:PV}(hx:dG w E p x)(hy:dG w E q y){K:PV->Mem->Prop}(h:vP P m T p q K):
 ∃m',K .ud m'/\∃w',(Instr.storeAt T x y).run P w=.ok () w'/\Ok w0 O E w' m'/\Ext w w' E E:=by
 unfold vP at h
 split at h
 ·rename_i l i o qs hq
  obtain⟨mb,hm,h⟩:=iM h
  split at h
  ·rename_i cs so
   obtain⟨ib,hT,hle,hK⟩:=h;obtain⟨B,hB,hb,hz,rfl⟩:=hx.Cb hk hm;obtain⟨c1,c2⟩:=GN hy hq;obtain⟨ti,hti,hts⟩:=kg (P:=P) (t:=T) Yn;obtain⟨cells,m1,m2,m3⟩:=hb.mem hz;have uo:=hb.es i cs so;have vz:i<B.n:=by rw[hb.n];grind
   have Zhc:i*B.k+B.k<=B.c*B.k:=by
    have:(i+1)*B.k<=B.c*B.k:=Wa _ (Wr vz hb.nc)
    grind
   have xj:∀v∈y.cells.toList,v.oneCell'=true:=by
    intro v hv;obtain⟨j,hj⟩:=WY hv;have Bc:j<qs.length:=by
     grind
    obtain⟨z,z1,z2,_⟩:=c2 j _ (VV Bc)
    simp_all
   have u0:=run_storeCells_at P B.b (i*B.k+o) B.T y.cells.toList 0 cells w m1 Yr xj;refine⟨_,hK,w.setRow B.b (cells.toList.take (i*B.k+o+0)++y.cells.toList++cells.toList.drop (i*B.k+o+0+y.cells.toList.length)).toArray,?_,?_⟩
   ·have uV:¬y.cells.size≠ti.size:=Yn
    simp only[Instr.storeAt,Instr.sureAddr,storeVar,Sem.run_bind,Sem.run_pure,Result.andThen_ok,run_sizeOf hti,uV,if_false];omega
   ·refine hk.put hB hz _ rfl rfl rfl Yq (λb gZ=>setRow_other w B.b b _ gZ) λuq=>?_
    ·have I0:(xF cs o qs).length=cs.length:=vT hle
     refine⟨hb.k,by rw[hb.n];simp,by rw[hb.T];exact(TK.Zf4 _ _).symm,hb.pos,hb.nc,hb.cm,λi' qy nj=>?_,λh=>Yv,λ_=>⟨_,setRow_heap w B.b cells _ B.T _ m1,?_,λi' qy j pp nj hj=>?_⟩,λT1 hT1 _ i' qy j es x nj hj gZ hc=>?_⟩
     ·simp only at nj
      by_cases e:i'=i
      ·grind
      ·rw[WA (Ne.symm e)]at nj
       exact hb.es i' qy nj
     ·grind
     ·simp only at nj
      have h1:y.cells.toList.length=qs.length:=Yn;have hsg:=λt=>N6 cells.toList y.cells.toList (i*B.k+o+0) Yr t
      by_cases e:i'=i
      ·subst e
       rw[WM (VU.1 so).1]at nj
       simp only[V6]at nj
       subst nj;rw[DI hle]at hj
       by_cases c:o<=j/\j<o+qs.length
       ·rw[if_pos c]at hj
        obtain⟨z,z1,z2,z3⟩:=c2 _ pp hj;refine⟨z,?_,z2,z3.ext uq⟩;rw[Xy,hsg,if_pos Yn]
        grind
       ·rw[if_neg c]at hj
        obtain⟨z,z1,z2,z3⟩:=m3 i' cs j pp so hj;refine⟨z,?_,z2,z3.ext uq⟩
        grind
      ·rw[WA (Ne.symm e)]at nj
       obtain⟨z,z1,z2,z3⟩:=m3 i' qy j pp nj hj;refine⟨z,?_,z2,z3.ext uq⟩;have Bc:j<B.k:=by rw[<-hb.es i' qy nj];grind
       rw[Xy,hsg,if_neg ?_,Xb]
       ·omega
       ·rw[h1]
        intro⟨g1,g2⟩
        rcases Nat.lt_or_gt_of_ne e with bX|Ba
        ·have:(i'+1)*B.k<=i*B.k:=Wa _ bX
         rw[Xm]at this
         omega
        ·have:(i+1)*B.k<=i'*B.k:=Wa _ Ba
         rw[Xm]at this
         omega
     ·simp only at nj
      obtain⟨hk1,hns⟩:=TK.Ut hT1;have h1:y.cells.toList.length=qs.length:=Yn;have hsg:=λt=>N6 cells.toList y.cells.toList (i*B.k+o+0) (by simp only[WZ,c1,m2];omega) t
      rw[cell_of_row _ B.b _ _ B.T (0,0) (setRow_heap w B.b cells _ B.T _ m1),Xy,hsg]at hc
      have xv:∀Vn,mb.es[i']?=YW Vn->Vn[j]?=YW (.sl es)->¬(i*B.k+o+0<=i'*B.k+j/\i'*B.k+j<i*B.k+o+0+y.cells.toList.length)->Hv (w.setRow B.b (cells.toList.take (i*B.k+o+0)++y.cells.toList++cells.toList.drop (i*B.k+o+0+y.cells.toList.length)).toArray) E T1 ((mb.T.st qs).t,i',j) es x:=by
       intro Vn g1 g2 g3;rw[if_neg g3,Xb]at hc
       rw[TK.Zf4];exact(hb.key T1 hk1 hz i' Vn j es x g1 g2 gZ (by rw[cell_of_row w B.b _ cells B.T (0,0) m1];exact hc)).ext uq
      by_cases e:i'=i
      ·subst e
       rw[WM (VU.1 so).1]at nj
       simp only[V6]at nj
       subst nj;rw[DI hle]at hj
       by_cases c:o<=j/\j<o+qs.length
       ·rw[if_pos c]at hj
        exact absurd (Gw hns hj) gZ
       ·rw[if_neg c]at hj
        exact xv cs so hj (by rw[h1];omega)
      ·rw[WA (Ne.symm e)]at nj
       have Bc:j<B.k:=by rw[<-hb.es i' qy nj];exact(VU.1 hj).1
       refine xv qy nj hj ?_;rw[h1];intro⟨g1,g2⟩
       rcases Nat.lt_or_gt_of_ne e with bX|Ba
       ·have:(i'+1)*B.k<=i*B.k:=Wa _ bX
        rw[Xm]at this
        omega
       ·have:(i+1)*B.k<=i'*B.k:=Wa _ Ba
        rw[Xm]at this
        omega
  simp_all
 simp_all
end
section
variable {w:World} {O:Nat->Prop} {E:Env} {w0:World} {m:Mem} {P:Program}
def pL(m:Mem):PV->Option (List (List PV))
 |.sl es=>YW es
 |.v (.slice YX 0 _)=>YW []
 |.ms l=>match m[l]? with
  |some (YW mb)=>YW mb.es
  |_=>YX
 |.ss l a b=>match m[l]? with
  |some (YW mb)=>YW ((mb.es.drop a).take (b-a))
  |_=>YX
 |_=>YX
theorem Lo(h:j<k):(i*k+j) / k=i/\(i*k+j) % k=j:=by
 have hk:0<k:=Yn;refine⟨?_,?_⟩
 ·rw[Xv,Nat.add_mul_div_right _ _ hk,Nat.div_eq_of_lt h,Wc]
 ·rw[Xv,X7,XY h]
theorem JQ{B:qt}{mb:MB}(hb:gJ w E mb B)(hz:B.z=YZ){a b:Nat}(CK:a<=b)(Sf:b<=B.n){es:List (List PV)}(xh:es=(mb.es.drop a).take (b-a))(BB:0<k)(hlen:∀(i:Nat) (cs:List PV),es[i]?=YW cs->cs.length=k):
 ∃news:List Value,news.length=es.length*k/\(∀j u,news[j]?=YW u->w.cell? ((⟨B.b,a*B.k,YX⟩:Addr).add j)=YW u)/\(∀u∈news,u.oneCell'=YY)/\
  ∀(i:Nat) (cs:List PV) (j:Nat) (p:PV),es[i]?=YW cs->cs[j]?=YW p->∃u,news[i*k+j]?=YW u/\dG w E p u:=by
 obtain⟨cells,m1,m2,m3⟩:=hb.mem hz;have hn:=hb.n;have hel:es.length=b-a:=by grind
 have get:∀{i:Nat} {cs:List PV},es[i]?=YW cs->mb.es[a+i]?=YW cs:=by
  grind
 rcases Nat.eq_zero_or_pos es.length with h0|h0
 ·simp_all
 have e0:B.k=k:=(hb.es _ _ (get (VV h0))).symm.trans (hlen 0 _ (VV h0));rw[e0]at m2 m3
 have bX:∀t,t<es.length*k->∃x,cells[a*k+t]?=YW x/\x.oneCell'=true:=by
  intro t ht;have hq:t / k<es.length:=by rw[Xz BB];omega
  have Pm:=Nat.mod_lt t BB;have e1:=VV hq;have e2:(es[t / k])[t % k]?=YW ((es[t / k])[t % k]' Yr):=VV _;have e3:t / k*k+t % k=t:=by rw[Nat.mul_comm];exact Nat.div_add_mod t k
  grind
 have Zhc:a*k+es.length*k<=cells.size:=by
  rw[m2,<-Xk];exact Wa _ (by have:=hb.nc;omega)
 refine⟨(cells.toList.drop (a*k)).take (es.length*k),by grind,λj v hj=>?_,λv hv=>?_,λi cs j p hi hj=>?_⟩
 ·have ea:(⟨B.b,a*B.k,YX⟩:Addr).add j=⟨B.b,a*k+j,YX⟩:=by rw[e0];unfold Addr.add;simp
  rw[ea,cell_of_row w B.b _ cells B.T (0,0) m1]
  grind
 ·obtain⟨t,ht⟩:=WY hv
  grind
 ·have Bb:i<es.length:=(VU.1 hi).1
  have bX:i*k+j<es.length*k:=by
   have:(i+1)*k<=es.length*k:=Wa _ Bb
   grind
  grind
theorem Zbz(hk:Ok w0 O E w m){p:PV}(hy:dG w E p y){es:List (List PV)}(hs:pL m p=YW es)(BB:0<k)(hlen:∀(i:Nat) (cs:List PV),es[i]?=YW cs->cs.length=k):
 (∃c,y=.slice YX 0 c/\es=[])\/∃(a:Addr) (c:Nat) (news:List Value),y=.slice (YW a) es.length c/\news.length=es.length*k/\(∀j u,news[j]?=YW u->w.cell? (a.add j)=YW u)/\(∀u∈news,u.oneCell'=YY)/\
  ∀(i:Nat) (cs:List PV) (j:Nat) (p:PV),es[i]?=YW cs->cs[j]?=YW p->∃u,news[i*k+j]?=YW u/\dG w E p u:=by
 unfold pL at hs
 split at hs
 ·rename_i tC
  obtain rfl:tC=es:=by grind
  cases hy.uL with
  |nil A c=>
   cases A with
   |none=>simp
   |some a=>simp
  |sl _ b off k' c u hS hkp hn hm xh hc h1 hr=>
   refine .inr ⟨⟨b,off,YX⟩,c,(Ws (tC.length*k)).map λt=>u (t / k) (t % k),rfl,by simp,λj v hj=>?_,λv hv=>?_,λi cs j p hi hj=>?_⟩
   ·have Bc:j<tC.length*k:=by grind
    have hq:j / k<tC.length:=by rw[Xz BB];omega
    have Pm:=Nat.mod_lt j BB;have e1:=VV hq;have e0:k'=k:=(xh _ _ e1).symm.trans (hlen _ _ e1);have e2:(tC[j / k])[j % k]?=YW ((tC[j / k])[j % k]' Yr):=VV _;have:=hc _ _ _ _ e1 e2;rw[e0]at this
    have e3:j / k*k+j % k=j:=by rw[Nat.mul_comm];exact Nat.div_add_mod j k
    have ea:(⟨b,off,YX⟩:Addr).add j=⟨b,off+j,YX⟩:=by unfold Addr.add;simp
    grind
   ·obtain⟨t,ht,rfl⟩:=List.mem_map.1 hv
    have Bc:t<tC.length*k:=by grind
    have hq:t / k<tC.length:=by rw[Xz BB];omega
    have Pm:=Nat.mod_lt t BB;have e1:=VV hq;have e2:(tC[t / k])[t % k]?=YW ((tC[t / k])[t % k]' Yr):=VV _
    grind
   ·have Bc:j<k:=by grind
    have Bb:i<tC.length:=(VU.1 hi).1;obtain⟨d1,d2⟩:=Lo (i:=i) Bc;have bX:i*k+j<tC.length*k:=by
     have:(i+1)*k<=tC.length*k:=Wa _ Bb
     grind
    refine⟨u i j,?_,.c (hr i cs j p hi hj)⟩
    grind
 ·obtain rfl:es=[]:=by grind
  obtain⟨rfl,_⟩:=hy.iz;simp
 ·split at hs
  ·rename_i l mb hm
   obtain rfl:mb.es=es:=by grind
   obtain⟨B,hB,hb,rfl⟩:=hy.tw hk hm
   cases hz:B.z with
   |true=>exact .inl ⟨0,by simp[qt.sv,hz],hb.nil hz⟩
   |false=>
    obtain⟨news,n1,n2,n3,n4⟩:=JQ hb hz (a:=0) (b:=B.n) (Ww _) (VY _) (es:=mb.es) (by simp[hb.n]) BB hlen
    exact .inr ⟨_,B.c,news,by simp[qt.sv,hz,hb.n],n1,n2,n3,n4⟩
  grind
 ·split at hs
  ·rename_i l a b _ mb hm
   obtain rfl:(mb.es.drop a).take (b-a)=es:=by grind
   obtain⟨B,hB,hb,A,c,rfl,CK,Sf,hA⟩:=hy.An hk hm;have hel:((mb.es.drop a).take (b-a)).length=b-a:=by rw[Wg,XX,<-hb.n];omega
   rcases Wv a b with bX|ze
   ·obtain⟨hz,rfl,CL,Hp⟩:=hA bX
    obtain⟨news,n1,n2,n3,n4⟩:=JQ hb hz CK Sf rfl BB hlen
    grind
   ·cases A with
    |none=>simp_all
    |some ad=>
     simp_all
  grind
 grind
def gF(P:Program)(ν:Nat)(m:Mem)(T:TypeId)(s x:PV)(K:PV->Mem->Prop):Prop:=
 match P.underlying T with
 |some (.slice e)=>match pz P e,pL m x with
  |some zc,YW es=>zc.length=P.cellsOf e/\0<P.cellsOf e/\(∀cs∈es,cs.length=P.cellsOf e)/\match s with
   |.ms l=>live m l λmb=>mb.T.t=e/\mb.k=P.cellsOf e/\mb.es.length+es.length<=1099511627776/\(mb.es.length+es.length)*P.bytesOf e<=140737488355328/\
    K (.ms ν) (oS (m.set l YX) ν ⟨mb.T.QZ es,P.cellsOf e,mb.es++es⟩)
   |.ss l a b=>a=0/\live m l λmb=>mb.T.t=e/\mb.k=P.cellsOf e/\(b<=mb.es.length/\¬mb.es=[])/\b+es.length<=1099511627776/\(b+es.length)*P.bytesOf e<=140737488355328/\
    K (.ms ν) (oS (m.set l YX) ν ⟨mb.T.QZ es,P.cellsOf e,mb.es.take b++es⟩)
   |.v (.slice YX 0 0)=>es.length<=1099511627776/\es.length*P.bytesOf e<=140737488355328/\K (.ms ν) (oS m ν ⟨e,P.cellsOf e,es⟩)
   |_=>False
  |_,_=>False
 |_=>False
theorem run_append_nil{t ty e:Nat}{i:TypeInfo}(ht:P.underlying t=YW (.slice e))(hi:P.info? e=YW i)(c:Nat):
 (Builtin.append_ #[t,t] ty #[.slice YX 0 0,.slice YX 0 c]).run P w=.ok (.slice YX 0 0) w:=by
 simp[Builtin.append_,run_underlying ht,sizeOf,typeInfo,hi,Builtin.lenOf,Builtin.firstCells]
theorem Bl{t ty e:Nat}{i:TypeInfo}(ht:P.underlying t=YW (.slice e))(hi:P.info? e=YW i)(g:Addr)(n cap c:Nat)(xi:n<=cap):
 (Builtin.append_ #[t,t] ty #[.slice (YW g) n cap,.slice YX 0 c]).run P w=.ok (.slice (YW g) n cap) w:=by
 simp[Builtin.append_,run_underlying ht,sizeOf,typeInfo,hi,Builtin.lenOf,Builtin.firstCells,xi,storeCells]
theorem Az{es tC:List (List PV)}(BB:0<k){E':Env}{w':World}(hx:Ext w w' E E'){xv news:List Value}(ho:xv.length=es.length*k)(hn:news.length=tC.length*k)
 (h1:∀(i:Nat) (cs:List PV),es[i]?=YW cs->cs.length=k) (h2:∀(i:Nat) (cs:List PV),tC[i]?=YW cs->cs.length=k)
 (r1:∀(i:Nat) (cs:List PV) (j:Nat) (p:PV),es[i]?=YW cs->cs[j]?=YW p->∃u,xv[i*k+j]?=YW u/\u.oneCell'=YY/\dG w E p u)
 (xj:∀u∈news,u.oneCell'=YY)
 (r2:∀(i:Nat) (cs:List PV) (j:Nat) (p:PV),tC[i]?=YW cs->cs[j]?=YW p->∃u,news[i*k+j]?=YW u/\dG w E p u)
 {cur:Array Value} (ZiF:cur.toList.take ((es.length+tC.length)*k)=xv++news):
 (∀(i:Nat) (cs:List PV),(es++tC)[i]?=YW cs->cs.length=k)/\∀(i:Nat) (cs:List PV) (j:Nat) (p:PV),(es++tC)[i]?=YW cs->cs[j]?=YW p->∃x,cur[i*k+j]?=YW x/\x.oneCell'=YY/\dG w' E' p x:=by
 have hlen:∀(i:Nat) (cs:List PV),(es++tC)[i]?=YW cs->cs.length=k:=by
  grind
 refine⟨hlen,λi cs j p hi hj=>?_⟩
 have Bb:i<es.length+tC.length:=by grind
 have vz:i*k+j<(es.length+tC.length)*k:=by
  have:(i+1)*k<=(es.length+tC.length)*k:=Wa _ Bb
  grind
 have yl:cur[i*k+j]?=(xv++news)[i*k+j]?:=by grind
 rw[yl]
 rcases Wv i es.length with h|h
 ·rw[Wu h]at hi
  obtain⟨u,u1,u2,u3⟩:=r1 i cs j p hi hj;exact⟨u,by grind,u2,u3.ext hx⟩
 ·rw[WO h]at hi
  obtain⟨u,u1,u3⟩:=r2 _ cs j p hi hj;have ze:xv.length<=i*k+j:=by
   have:es.length*k<=i*k:=Wa _ h;omega
  refine⟨u,?_,xj u (VW u1),u3.ext hx⟩;rw[WO ze,<-u1]
  congr 1
  rw[Nat.sub_mul];have:es.length*k<=i*k:=Wa _ h;omega
theorem xV{es:List (List PV)}(hu:P.underlying T=YW (.slice e))(hz:(pz P e).isSome=YY)(zj:∀zc,pz P e=YW zc->zc.length=P.cellsOf e)(ib:0<P.cellsOf e)(hlen:∀cs∈es,cs.length=P.cellsOf e)
 (hsr:(∃c,y=.slice YX 0 c/\es=[])\/∃(a:Addr) (c:Nat) (news:List Value),y=.slice (YW a) es.length c/\news.length=es.length*P.cellsOf e/\(∀j u,news[j]?=YW u->w.cell? (a.add j)=YW u)/\(∀u∈news,u.oneCell'=YY)/\
  ∀(i:Nat) (cs:List PV) (j:Nat) (p:PV),es[i]?=YW cs->cs[j]?=YW p->∃u,news[i*P.cellsOf e+j]?=YW u/\dG w E p u)
 (yj:es.length<=1099511627776) (qB:es.length*P.bytesOf e<=140737488355328):
 ∃(B:qt) (w':World),(Builtin.append_ #[T,T] ty #[.slice YX 0 0,y]).run P w=.ok B.sv w'/\w'.os=w.os/\w'.tape=w.tape/\w'.output=w.output/\w.heap.size<=w'.heap.size/\(∀b,b<w.heap.size->w'.heap[b]?=w.heap[b]?)/\
  (B.z=YZ->w.heap.size<=B.b/\B.b<w'.heap.size)/\∀E',Ext w w' E E'->gJ w' E' ⟨e,P.cellsOf e,es⟩ B:=by
 obtain⟨zc,hz⟩:=Option.isSome_iff_exists.1 hz;have zj:=zj zc hz;obtain⟨i,z,hi,u4,hc⟩:=Ah (w:=w) (E:=E) hz;have QU:i.size=P.cellsOf e:=by simp[Program.cellsOf,hi]
 have hib:i.bytes=P.bytesOf e:=by simp[Program.bytesOf,hi]
 have hzs:z.cells.size=P.cellsOf e:=by rw[hc.1,zj]
 have CN:∀(i:Nat) (cs:List PV),es[i]?=YW cs->cs.length=P.cellsOf e:=λi cs h=>hlen cs (VW h)
 have ZhL:es=[]->∀E',gJ w E' ⟨e,P.cellsOf e,es⟩ ⟨0,0,0,P.cellsOf e,e,YY⟩:=λh0 E'=>
  ⟨rfl,by grind,rfl,ib,VY _,Ww _,Yn,λ_=>h0,λh=>YA,λ_ hT=>by simp⟩
 rcases hsr with⟨c,rfl,h0⟩ |⟨a,c,news,rfl,BD,xi,xj,hnr⟩
 ·exact⟨⟨0,0,0,P.cellsOf e,e,YY⟩,w,run_append_nil hu hi c,rfl,rfl,rfl,VY _,λ_ _=>rfl,λh=>YA,λE' _=>ZhL h0 E'⟩
 ·obtain⟨v',w',kv,ym,hg,Zac,yk⟩:=run_append_own_at (P:=P) w 0 T ty e i z (P.cellsOf e) (P.bytesOf e) hu hi u4 QU hib hzs ib _ 0 [] (World.ownsRow_nil _ _ _ _) a es.length c news BD xi xj YF Yr (Ww _)
  have hold:∀b,b<w.heap.size->w'.heap[b]?=w.heap[b]?:=λb qZ=>hg.block b qZ (by simp[Value.ownBlock])
  rcases ym.2 with⟨rfl,h0⟩ |⟨g,cap,cur,rfl,hgB,hgh,hgn,hgc,hgs,Ba⟩
  ·have h0':es=[]:=List.length_eq_zero_iff.1 Yn
   refine⟨⟨0,0,0,P.cellsOf e,e,YY⟩,w',kv,hg.os,hg.tape,hg.output,hg.size,hold,λh=>YA,λE' _=>?_⟩
   exact⟨rfl,by grind,rfl,ib,VY _,Ww _,Yn,λ_=>h0',λh=>YA,λ_ hT=>by simp⟩
  ·simp only[Value.ownBlock]at yk
   have u9:g<w'.heap.size:=(We.1 hgh).1;simp at Ba hgn kv
   refine⟨⟨g,cap,es.length,P.cellsOf e,e,YZ⟩,w',kv,hg.os,hg.tape,hg.output,hg.size,hold,λ_=>⟨by grind,u9⟩,λE' uq=>?_⟩
   obtain⟨g1,g2⟩:=Az (es:=[]) (tC:=es) (k:=P.cellsOf e) ib uq (xv:=[]) (news:=news) Yq BD Yq CN Yq xj hnr (cur:=cur) Yr;exact⟨rfl,rfl,rfl,ib,hgn,hgc,g1,λh=>YA,λ_=>⟨cur,hgh,hgs,g2⟩,λ_ hT=>by cases hT⟩
theorem B8(hk:Ok w0 O E w m)(wq:¬E.used ν){es:List (List PV)}{zc:List PV}(hu:P.underlying T=YW (.slice e))(hz:pz P e=YW zc)(zj:zc.length=P.cellsOf e)(ib:0<P.cellsOf e)
 (SI:∀zc',pz P e=YW zc'->zc'.length=P.cellsOf e) (hlen:∀cs∈es,cs.length=P.cellsOf e) (CN:∀(i:Nat) (cs:List PV),es[i]?=YW cs->cs.length=P.cellsOf e)
 (hsr:(∃c,y=.slice YX 0 c/\es=[])\/∃(a:Addr) (c:Nat) (news:List Value),y=.slice (YW a) es.length c/\news.length=es.length*P.cellsOf e/\(∀j u,news[j]?=YW u->w.cell? (a.add j)=YW u)/\(∀u∈news,u.oneCell'=YY)/\
  ∀(i:Nat) (cs:List PV) (j:Nat) (p:PV),es[i]?=YW cs->cs[j]?=YW p->∃u,news[i*P.cellsOf e+j]?=YW u/\dG w E p u)
 {B B0:qt} (hB:E.β l=YW B) (e1:B0.b=B.b) (e2:B0.z=B.z) {mb:MB} (hb:gJ w E mb B0) (hmT:mb.T.t=e) (hmk:mb.k=P.cellsOf e) (yj:mb.es.length+es.length<=1099511627776) (qB:(mb.es.length+es.length)*P.bytesOf e<=140737488355328):
 vc P w0 O E w ν (Builtin.append_ #[T,T] ty #[B0.sv,y]) (.ms ν) (oS (m.set l YX) ν ⟨mb.T.QZ es,P.cellsOf e,mb.es++es⟩):=by
 have hBk:B0.k=P.cellsOf e:=hb.k.trans hmk;have hBT:B0.T=e:=hb.T.trans hmT
 cases hzB:B0.z with
 |true=>
  have h0:=hb.nil hzB;obtain⟨B',w',kv,g1,g2,g3,g4,g5,g6,g7⟩:=xV (w:=w) (E:=E) (ty:=ty) hu Yv SI ib hlen hsr Yn (by
   simp_all)
  have Sx:=hk.move wq hB ⟨mb.T.QZ es,P.cellsOf e,mb.es++es⟩ B' g1 g2 g3 g4 (λb qZ _=>g5 b qZ) (λu4=>.inr (g6 u4).1) (λu4=>(g6 u4).2) λuq=>by
   rw[h0];exact(g7 _ uq).ZdF ((TK.Kz _ _).trans hmT) λT1 h1=>(Hd h1).2
  refine⟨_,w',_,by rw[show B0.sv=.slice YX 0 0 by simp[qt.sv,hzB]];exact kv,Sx.1,Sx.2,.ms _ _ (.inl rfl) (by unfold qt.sv;split<;>rfl) λB1 xe=>?_,λl hl=>hl.symm⟩
  have:B1=B':=by simpa[Env.move,eq_comm]using xe
  grind
 |false=>
  obtain⟨i,z,hi,u4,hc⟩:=Ah (w:=w) (E:=E) hz;have QU:i.size=P.cellsOf e:=by simp[Program.cellsOf,hi]
  have hib:i.bytes=P.bytesOf e:=by simp[Program.bytesOf,hi]
  have hzs:z.cells.size=P.cellsOf e:=by rw[hc.1,zj]
  have Zfw:B.z=false:=e2.symm.trans hzB;obtain⟨o1,o2,o3⟩:=hk.own l B hB Zfw;obtain⟨cells,m1,m2,m3⟩:=hb.mem hzB;rw[hBk]at m2 m3
  have Pn:B0.sv=.slice (YW ⟨B0.b,0,YX⟩) B0.n B0.c:=by simp[qt.sv,hzB]
  rw[Pn]
  rcases hsr with⟨c,rfl,rfl⟩ |⟨a,c,news,rfl,BD,xi,xj,hnr⟩
  ·have Sx:=hk.move (w':=w) wq hB ⟨mb.T.QZ [],P.cellsOf e,mb.es++[]⟩ B0 rfl rfl rfl (VY _) (λ_ _ _=>rfl) (λ_=>.inl ⟨Zfw,e1⟩) (λ_=>Yn) λuq=>⟨hBk,by rw[hb.n];simp,hBT.trans ((TK.Kz _ _).trans hmT).symm,hb.pos,hb.nc,hb.cm,by
    intro i cs hi;simp at hi;exact hb.es i cs hi,λh=>Yv,λ_=>⟨cells,m1,by simp_all,by
    intro i cs j p hi hj;simp only[List.append_nil]at hi
    obtain⟨x,x1,x2,x3⟩:=m3 i cs j p hi hj;rw[hBk];exact⟨x,x1,x2,x3.ext uq⟩⟩,λT1 hT1 KT i cs j es x hi hj gZ hc=>by
    simp only[List.append_nil]at hi
    rw[TK.Kz];exact(hb.key T1 (Hd hT1).1 KT i cs j es x hi hj gZ hc).ext uq⟩
   refine⟨_,w,_,Bl (w:=w) hu hi _ _ _ c hb.nc,Sx.1,Sx.2,.ms _ _ (.inl rfl) rfl λB' nK=>?_,λl hl=>hl.symm⟩
   have:B'=B0:=by simpa[Env.move,eq_comm]using nK
   simp_all
  ·have ZiQ:B0.n*P.cellsOf e<=B0.c*P.cellsOf e:=Wa _ hb.nc
   have oC:w.ownsRow 0 e (P.cellsOf e) (.slice (YW ⟨B0.b,0,YX⟩) B0.n B0.c) B0.n (cells.toList.take (B0.n*P.cellsOf e)):=
    ⟨by simp_all,.inr ⟨B0.b,B0.c,cells,rfl,Ww _,by simp_all,hb.nc,hb.cm,m2,rfl⟩⟩
   obtain⟨v',w',kv,ym,hg,Zac,yk⟩:=run_append_own_at (P:=P) w 0 T ty e i z (P.cellsOf e) (P.bytesOf e) hu hi u4 QU hib hzs ib _ B0.n _ oC a es.length c news BD xi xj (by rw[hb.n];unfold maxLen;omega) (by rw[hb.n];omega) (Ww _)
   rcases ym.2 with⟨rfl,_⟩ |⟨g,cap,cur,rfl,hgB,hgh,hgn,hgc,hgs,Ba⟩
   ·simp_all
   ·simp only[Value.ownBlock,V6]at yk hg
    have u9:g<w'.heap.size:=(We.1 hgh).1;have Sx:=hk.move (w':=w') wq hB ⟨mb.T.QZ es,P.cellsOf e,mb.es++es⟩ ⟨g,cap,B0.n+es.length,P.cellsOf e,e,YZ⟩ hg.os hg.tape hg.output hg.size
     (λb qZ xJ=>hg.block b qZ Yv) (λ_=>by grind) (λ_=>u9) λuq=>by
      obtain⟨g1,g2⟩:=Az (es:=mb.es) (tC:=es) (k:=P.cellsOf e) ib uq (xv:=cells.toList.take (B0.n*P.cellsOf e)) (news:=news) (by rw[Wg,WZ,<-hb.n];omega) BD
       (λi cs hi=>(hb.es i cs hi).trans hBk) CN (λi cs j p hi hj=>by
        have Bc:j<P.cellsOf e:=by rw[<-(hb.es i cs hi).trans hBk];grind
        have Bb:i<B0.n:=by rw[hb.n];grind
        have bX:i*P.cellsOf e+j<B0.n*P.cellsOf e:=by
         have:(i+1)*P.cellsOf e<=B0.n*P.cellsOf e:=Wa _ Bb
         grind
        grind) xj hnr (cur:=cur) (by rw[<-hb.n];omega)
      exact⟨rfl,by simp[hb.n],((TK.Kz _ _).trans hmT).symm,ib,hgn,hgc,g1,λh=>YA,λ_=>⟨cur,hgh,hgs,g2⟩,λT1 hT1 _ i cs j es1 x hi hj gZ hc=>by
       obtain⟨hk1,hns⟩:=Hd hT1
       rcases Wv i mb.es.length with Bb|Bb
       ·simp only[Wu Bb]at hi
        have Bc:j<P.cellsOf e:=by grind
        have bX:i*P.cellsOf e+j<B0.n*P.cellsOf e:=by
         have:(i+1)*P.cellsOf e<=B0.n*P.cellsOf e:=Wa _ (by rw[hb.n];omega)
         grind
        have I1:i*P.cellsOf e+j<(B0.n+es.length)*P.cellsOf e:=by grind
        rw[cell_of_row w' g _ cur e (0,0) hgh]at hc
        have BA:cells[i*P.cellsOf e+j]?=YW x:=by
         have h5:cur.toList[i*P.cellsOf e+j]?=cells.toList[i*P.cellsOf e+j]?:=by
          rw[<-Xq I1,Ba,Wu Yv,Xq bX]
         rw[Xb,Xb]at h5
         rw[<-h5];exact hc
        rw[TK.Kz];exact(hb.key T1 hk1 hzB i cs j es1 x hi hj gZ (by rw[cell_of_row w B0.b _ cells B0.T (0,0) m1,hBk];omega)).ext uq
       ·simp only[WO Bb]at hi
        exact absurd (Gw (hns cs (VW hi)) hj) gZ⟩
    refine⟨_,w',_,kv,Sx.1,Sx.2,.ms _ _ (.inl rfl) rfl λB' nK=>?_,λl hl=>hl.symm⟩
    have e':B'=⟨g,cap,B0.n+es.length,P.cellsOf e,e,YZ⟩:=by simpa[Env.move,eq_comm]using nK
    subst e';rfl
theorem Ej(hk:Ok w0 O E w m)(wq:¬E.used ν){p q:PV}(hx:dG w E p x)(hy:dG w E q y){K:PV->Mem->Prop}(h:gF P ν m T p q K):
 ∃p m',K p m'/\vc P w0 O E w ν (Builtin.append_ #[T,T] ty #[x,y]) p m':=by
 unfold gF at h
 split at h
 ·rename_i e hu
  split at h
  ·rename_i zc es hz xk
   obtain⟨zj,ib,hlen,h⟩:=h;have SI:∀zc',pz P e=YW zc'->zc'.length=P.cellsOf e:=λzc' h'=>by grind
   have CN:∀(i:Nat) (cs:List PV),es[i]?=YW cs->cs.length=P.cellsOf e:=λi cs h=>hlen cs (VW h)
   have hsr:=Zbz hk hy xk ib CN
   split at h
   ·obtain⟨mb,hm,hmT,hmk,yj,qB,hK⟩:=iM h
    obtain⟨B,hB,hb,rfl⟩:=hx.tw hk hm;exact⟨_,_,hK,B8 hk wq hu hz zj ib SI hlen CN hsr hB rfl rfl hb hmT hmk yj qB⟩
   ·rename_i l a b
    obtain⟨rfl,h⟩:=h;obtain⟨mb,hm,hmT,hmk,zI,yj,qB,hK⟩:=iM h;obtain⟨B,hB,hb,Sf,hxv,A,c,hxs⟩:=hx.Oa hk hm;have Pe:gJ w E ⟨mb.T,mb.k,mb.es.take b⟩ ⟨B.b,B.c,b,B.k,B.T,B.z⟩:=hb.part Sf;have Pn:x=(⟨B.b,B.c,b,B.k,B.T,B.z⟩:qt).sv\/B.z=true:=by
     cases hz0:B.z with
     |false=>exact .inl (by rw[hxv hz0];rfl)
     |true=>simp
    rcases Pn with rfl|hz0
    ·exact⟨_,_,hK,B8 (mb:=⟨mb.T,mb.k,mb.es.take b⟩) (B0:=⟨B.b,B.c,b,B.k,B.T,B.z⟩) hk wq hu hz zj ib SI hlen CN hsr hB rfl rfl Pe hmT hmk Yr Yr⟩
    ·exact absurd (hb.nil hz0) zI.2
   ·obtain⟨yj,qB,hK⟩:=h
    obtain⟨rfl,_⟩:=hx.iz;obtain⟨B',w',kv,g1,g2,g3,g4,g5,g6,g7⟩:=xV (w:=w) (E:=E) (ty:=ty) hu Yr SI ib hlen hsr yj qB;have Sx:=hk.new wq ⟨e,P.cellsOf e,es⟩ B' g1 g2 g3 g4 g5 g6 (g7 _);refine⟨_,_,hK,_,w',_,kv,Sx.1,Sx.2,.ms _ _ (.inl rfl) (by unfold qt.sv;split<;>rfl) λB1 xe=>?_,λl hl=>hl.symm⟩
    have:B1=B':=by simpa[Env.add,eq_comm]using xe
    grind
   grind
  grind
 grind
end
end Go.Proofs.YtdilaemengjipaaGreatDoor
