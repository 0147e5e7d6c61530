/- A part of the proof of the statement in the last file of this claim: texts on the language of the program and on its functions. No condition. -/
import Derived.WalkKit
import Derived.WalkSpells
import Derived.WalkLawsBesides
import Derived.Below
import Derived.Lib.Hide
import Derived.Outline
import Derived.Laws.OwnMore
import Derived.Maps.AppendAt
import Derived.Deep.Draws
import Derived.Deep.QuietTactic
import Derived.BigQuiet
import Derived.Laws.StructEq
import Derived.Deep.DeepCutAuto
import Derived.StillTailTactics
import Derived.Laws.AppendOwnNone
set_option linter.unusedVariables false
set_option linter.unusedSimpArgs false
set_option linter.unusedSectionVars false
open Go.Value renaming int->ZF
open Go.IntKind renaming i64->ZG
open Go renaming undef->ZH
open Option renaming some->ZA,none->ZB
open Bool renaming true->ZC,false->ZD
open Decidable renaming decide->ZE
namespace Go.Proofs.YtbalgkakkoocjaaGreat
universe u
abbrev Yp:=@decide_eq_true
abbrev Yz:=@decide_eq_false
abbrev YA:=@of_decide_eq_true
abbrev YB:=@of_decide_eq_false
theorem YC{α:Type u}(a b:α):cond true a b=a:=rfl
theorem YD{α:Type u}(a b:α):cond false a b=b:=rfl
theorem YE{p:Prop}[Decidable p]:decide p=true↔p:=decide_eq_true_iff
theorem YF{p:Prop}{_:Decidable p}:decide p=false↔¬p:=decide_eq_false_iff_not
theorem YG{p:Prop}(h:p:=by omega):p:=h
theorem YH{p:Prop}(h:p:=by (repeat(first|exact Up.rfl' _|(refine Up.al _ ?_) |(refine Up.dr _ ?_) |(refine Up.pE ?_) |(refine Up.sc ?_ (by first|exact VJ _|(simp;done) |omega) _) |(refine Up.step (by assumption) ?_)))):p:=h
theorem YI{p:Prop}(h:p:=by unfold NN;omega):p:=h
theorem YJ{p:Prop}(h:p:=by simp):p:=h
theorem YK{p:Prop}(h:p:=by kernel_rfl):p:=h
theorem YL{p:Prop}(h:p:=by first|exact VJ _|(simp;done) |omega):p:=h
theorem YM{p:Prop}(h:p:=by simp[Op.operands]):p:=h
theorem YN{p:Prop}(h:p:=by grind):p:=h
theorem YO{p:Prop}(h:p:=by assumption):p:=h
theorem YP{p:Prop}(h:p:=by rcases b1 with⟨a,b,_⟩ |b;exact .inl ⟨a,b⟩;exact .inr b):p:=h
theorem YQ{p:Prop}(h:p:=by rwa[show i+(k+1)=i+1+k by omega]):p:=h
theorem YR{p:Prop}(h:p:=by simp;omega):p:=h
theorem YS{p:Prop}(h:p:=by rcases b2 with⟨a,b,_⟩ |b;exact .inl ⟨a,b⟩;exact .inr b):p:=h
theorem YT{p:Prop}(h:p:=by cases h):p:=h
theorem YU{p:Prop}(h:p:=by simp only[execOp,ho]):p:=h
theorem YV{p:Prop}(h:p:=by first|exact Nat.le_refl _|(simp;done) |omega):p:=h
theorem YW{p:Prop}(h:p:=by simpa[pc,eq_comm]using hp):p:=h
theorem YX{p:Prop}(h:p:=by simp[jf,rC,oR,qN]):p:=h
theorem YY{p:Prop}(h:p:=by simp only[VL,VO];omega):p:=h
theorem YZ{p:Prop}(h:p:=by intro hh;have h_:=World.ownsRow.lt MQ _ hh.symm;omega):p:=h
theorem Y2{p:Prop}(h:p:=by simpa using hk):p:=h
theorem Y6{p:Prop}(h:p:=by unfold maxLen;omega):p:=h
theorem Y9{p:Prop}(h:p:=by simp_all):p:=h
theorem Za{p:Prop}(h:p:=by intro hh;have h_:=World.ownsRow.lt HO0.out _ hh;omega):p:=h
theorem Zb{p:Prop}(h:p:=by rw[<-Bw];exact(heap_alloc_old _ _ (by simp)).trans (heap_alloc_new w _)):p:=h
theorem Zc{p:Prop}(h:p:=by simpa using hl):p:=h
theorem Zd{p:Prop}(h:p:=by unfold maxLen;simp;omega):p:=h
theorem Ze{p:Prop}(h:p:=by have h_:=vP.size;simpa using h_):p:=h
theorem Zf{p:Prop}(h:p:=by unfold iC;exact Yp (by omega)):p:=h
theorem Zg{p:Prop}(h:p:=by rw[V3];omega):p:=h
theorem Zh{p:Prop}(h:p:=by first|omega|(simp only[yO,yP];omega) |(simp only[yO,yP,VJ])):p:=h
theorem Zi{p:Prop}(h:p:=by obtain⟨q,h1,h2⟩:=HM3.out;exact h2.left h1 (by omega)):p:=h
theorem Zj{p:Prop}(h:p:=by rfl):p:=h
theorem Zk{p:Prop}(h:p:=by simp only[Op.operands];exact List.mem_map_of_mem hq):p:=h
theorem Zl{p:Prop}(h:p:=by simpa using h):p:=h
theorem Zm{p:Prop}(h:p:=by intro hh;have h3_:wr.heap.size+1=g3:=VG hh;omega):p:=h
theorem Zn{p:Prop}(h:p:=by have:=h.up.size;omega):p:=h
theorem Zo{p:Prop}(h:p:=by unfold jz at h;omega):p:=h
theorem Zp{p:Prop}(h:p:=by unfold dZ at h;omega):p:=h
theorem Zq{p:Prop}(h:p:=by rw[m2];exact V1 _ (by omega)):p:=h
theorem Zr{p:Prop}(h:p:=by have:=ml eJ h;have e:eJ a=cS a.av:=rfl;omega):p:=h
theorem Zs{p:Prop}(h:p:=by simpa using hj):p:=h
theorem Zt{p:Prop}(h:p:=by rw[hz]at h;cases h):p:=h
theorem Zu{p:Prop}(h:p:=by have:=hI.ae;omega):p:=h
theorem Zv{p:Prop}(h:p:=by unfold cL.sv;split<;>rfl):p:=h
theorem Zw{p:Prop}(h:p:=by rw[qI];omega):p:=h
theorem Zx{p:Prop}(h:p:=by rw[wj];omega):p:=h
theorem Zy{p:Prop}(h:p:=by rw[we];omega):p:=h
theorem Zz{p:Prop}(h:p:=by rw[h1,h2];simp):p:=h
open List renaming length_append->VV,getElem?_eq_some_iff->VH,getElem?_append_left->Wi,getElem?_append_right->V9,getElem?_eq_getElem->VF,getElem?_take->WT,range->Wq,all_eq_true->VS,mem_of_getElem?->VI,length_take->V3,replicate->VW,length_set->Ws,getElem?_set_ne->Wk,getD->W8,getElem?_drop->WK,ofFn->XE,getElem?_take_of_lt->W0,length_drop->WH,length_replicate->XK,getElem?_of_mem->Xf,getElem?_set_self->Wa,getElem?_toArray->Xq,append_nil->Wy
open Nat renaming add_mul->Xm,add_comm->XF,zero_mul->XY,zero_add->VY,succ_mul->WX,add_assoc->Xv,le_refl->VJ,le_trans->Wb,lt_of_lt_of_le->V4,lt_or_ge->Wg,zero_le->WG,mod_eq_of_lt->Ye,mul_le_mul_right->V1,add_mul_mod_self_right->Yr,div_lt_iff_lt_mul->XL,mod_lt->XM
open _root_.Array renaming getElem?_eq_some_iff->VQ,getElem?_eq_getElem->VU,range->Yc,length_toList->Wn,getElem?_toList->Wx
open Option renaming map_eq_some_iff->VT,ite_none_right_eq_some->W3,ite_none_left_eq_some->Yb,map_some->Wo
open BitVec renaming ofInt->WC
open Option.some renaming injEq->VR
set_option maxRecDepth 10000
open Go.RowKit
variable {GF GH:Option Value}{T e t ty:TypeId}{a b:World}{c i j k l n off ν:Nat}{op:BinOp}{x y:Value}
abbrev I(n:Int):Value:=ZF ZG n
class eo(α:Type) where
 cells:α->List Value
 k:Nat
 len:∀x,(cells x).length=k
 pos:0<k
 one:∀x,∀u∈cells x,u.oneCell'=ZC
instance :eo Int where
 cells x:=[I x]
 k:=1
 len _:=rfl
 pos:=by decide
 one:=by simp[Value.oneCell',I]
def flat{α:Type}[eo α](xs:List α):List Value:=xs.flatMap eo.cells
section flat
variable {α:Type} [eo α]
theorem xD(x:α)(xs:List α):flat (x::xs)=eo.cells x++flat xs:=rfl
theorem Ps(xs ys:List α):flat (xs++ys)=flat xs++flat ys:=by simp[flat]
theorem Zen(x:α):flat [x]=eo.cells x:=by simp[flat]
theorem ux(xs:List α):(flat xs).length=xs.length*eo.k α:=by
 induction xs with
 |nil=>simp[flat]
 |cons x xs ih=>rw[xD,VV,ih,eo.len,List.length_cons,Xm,Nat.one_mul,XF]
theorem Ms(xs:List α):∀u∈flat xs,u.oneCell'=true:=by
 intro u hu;obtain⟨x,_,hx⟩:=List.mem_flatMap.1 hu;exact eo.one x u hx
theorem ym{xs:List α}{x:α}(hx:xs[i]?=ZA x){u:Value}(hu:(eo.cells x)[j]?=ZA u):(flat xs)[i*eo.k α+j]?=ZA u:=by
 induction xs generalizing i with
 |nil=>simp at hx
 |cons y ys ih=>
  have hl:=eo.len (α:=α) y
  cases i with
  |zero=>
   obtain rfl:y=x:=by simpa using hx
   have hj:j<(eo.cells y).length:=(VH.1 hu).1;rw[xD,XY,VY,Wi hj,hu]
  |succ i=>
   have h1:=ih (i:=i) (by simpa using hx)
   rw[xD,V9 (by rw[hl,WX];omega),<-h1]
   congr 1
   rw[hl,WX];omega
end flat
def Rd{α:Type}[eo α](w:World)(B:Nat)(A:Option Addr)(xs:List α):Prop:=
 xs≠[]->∃b off,A=ZA ⟨b,off,ZB⟩/\b<B/\∀j u,(flat xs)[j]?=ZA u->w.cell? ⟨b,off+j,ZB⟩=ZA u
section rd
variable {α:Type} [eo α] {w w':World} {B B':Nat} {A:Option Addr} {xs:List α}
theorem Rd.Zih:Rd w B A ([]:List α):=λh=>absurd rfl h
theorem Rd.aO{x:α}(h:Rd w B A xs)(hx:xs[i]?=ZA x):
 ∃b off,A=ZA ⟨b,off,ZB⟩/\b<B/\∀j u,(eo.cells x)[j]?=ZA u->w.cell? ⟨b,off+i*eo.k α+j,ZB⟩=ZA u:=by
 obtain⟨b,off,e,hb,hc⟩:=h (by rintro rfl;simp at hx)
 exact⟨b,off,e,hb,λj u hu=>by rw[Xv];exact hc _ u (ym hx hu)⟩
theorem Rd.vm(h:Rd w B A xs)(hk:∀b o,b<B->w'.cell? ⟨b,o,ZB⟩=w.cell? ⟨b,o,ZB⟩):Rd w' B A xs:=λhn=>by
 obtain⟨b,off,e,hb,hc⟩:=h hn;exact⟨b,off,e,hb,λj u hu=>(hk _ _ hb).trans (hc j u hu)⟩
theorem Rd.more(h:Rd w B A xs)(hB:B<=B'):Rd w B' A xs:=λhn=>by
 obtain⟨b,off,e,hb,hc⟩:=h hn;exact⟨b,off,e,YG,hc⟩
theorem Rd.below(h:Rd w B A xs)(hb:Below B w w'):Rd w' B A xs:=h.vm λb o hp=>hb.cell (p:=⟨b,o,ZB⟩) hp
end rd
def Own{α:Type}[eo α](w:World)(B:Nat)(E:TypeId)(v:Value)(xs:List α):Prop:=w.ownsRow B E (eo.k α) v xs.length (flat xs)
theorem Zc4{α:Type}{xs:List α}{x:α}(hx:xs[i]?=ZA x):xs.take (i+1)=xs.take i++[x]:=by
 rw[List.take_add_one,hx];rfl
theorem ZbH{α:Type}{xs:List α}(h:i<xs.length):∃x,xs[i]?=ZA x:=⟨xs[i],VF h⟩
theorem Zb3{α:Type}{xs:List α}{x:α}(hx:xs[i]?=ZA x):i<xs.length:=(VH.1 hx).1
theorem SK{α β:Type}{xs:List α}{x:α}(hx:xs[i]?=ZA x)(f:β->α->β)(a:β):(xs.take (i+1)).foldl f a=f ((xs.take i).foldl f a) x:=by
 rw[Zc4 hx,List.foldl_append];rfl
theorem Below.next{B:Nat}{a b c:World}(h:Below B a b)(k:Below b.heap.size b c)(hB:B<=b.heap.size):Below B a c:=h.trans (k.mono hB)
abbrev Up(w w':World):Prop:=Below w.heap.size w w'
theorem Up.rfl'(w:World):Up w w:=Below.refl _ _
theorem Up.step{a b c:World}(k:Up b c)(h:Up a b):Up a c:=Below.trans h (Below.mono k h.size)
theorem Up.al(o:Obj)(h:Up a b):Up a (b.alloc o):=Below.alloc h h.size o
theorem Up.sc{p:Addr}(h:Up a b)(hp:a.heap.size<=p.block)(u:Value):Up a (b.setCell p u):=Below.setCell h hp u
theorem Up.dr(n:Nat)(h:Up a b):Up a (b.drewN n):=⟨h.os,h.tape,h.output,h.size,h.block⟩
theorem Up.pE(h:Up a b):Up a b.drew:=Below.drew h
theorem Rd.up{α:Type}[eo α]{w w':World}{A:Option Addr}{xs:List α}(h:Rd w w.heap.size A xs)(hb:Up w w'):Rd w' w'.heap.size A xs:=(h.below hb).more hb.size
theorem Own.rd{α:Type}[eo α]{w:World}{B E:Nat}{A:Option Addr}{xs:List α}(h:Own w B E (.slice A n c) xs):Rd w w.heap.size A xs:=by
 intro dX;have gD:0<xs.length:=List.length_pos_iff.2 dX
 rcases h.2 with⟨_,h0⟩ |⟨g,cap,cur,hv,hB,hg,xt,Kd,gl,ht⟩
 ·omega
 ·have hA:A=ZA ⟨g,0,ZB⟩:=by injection hv
  refine⟨g,0,hA,(VQ.1 hg).1,λj u hu=>?_⟩
  rw[VY,cell_of_row w g j cur E (0,0) hg];rw[<-ht,WT]at hu
  split at hu
  ·simpa using hu
  ·cases hu
theorem Own.up{α:Type}[eo α]{w w':World}{B E:Nat}{v:Value}{xs:List α}(h:Own w B E v xs)(hb:Up w w'):Own w' B E v xs:=by
 refine⟨h.1,?_⟩
 rcases h.2 with h2|⟨g,cap,cur,hv,hB,hg,r⟩
 ·exact .inl h2
 ·exact .inr ⟨g,cap,cur,hv,hB,(hb.block g (VQ.1 hg).1).trans hg,r⟩
theorem Zlp{a b:Int}(h:a=b):Ending.returned (ZF ZG a)=.returned (ZF ZG b):=by rw[h]
def Cv(n:Nat)(f:Nat->Bool):Bool:=(Wq n).all f
theorem Ea{f:Nat->Bool}:Cv n f=ZC↔∀i,i<n->f i=true:=by simp[Cv]
def kz(l:Int)(n:Nat):Int:=if l<n then -1 else l-n
theorem run_mk{P:Program}(t e:TypeId)(i:TypeInfo)(z:Value)(ht:P.underlying t=ZA (.slice e))(hi:P.info? e=ZA i)(hz:i.zero=ZA z)
 (n:Nat) (rU:i.bytes*n<=281474976710656) (h63:n<=9223372036854775807) (w:World):
 (Instr.makeSlice t (ZF ZG (n:Int)) (ZF ZG (n:Int))).run P w=.ok (.slice (ZA ⟨w.heap.size,0,ZB⟩) n n) (w.alloc (.cells (madeCells z.cells (n*i.size)) e)):=by
 have hb:(i.bytes:Int)*(n:Int)<=281474976710656:=by
  have h:((i.bytes*n:Nat):Int)<=281474976710656:=YG
  rwa[Int.natCast_mul]at h
 have hr:=run_make (P:=P) w t e i z ht hi hz .i64 .i64 n n YG YG hb YG;simp only[Int.toNat_natCast]at hr
 exact hr
def ZjU(_:World):Prop:=True
theorem ZnZ(w:World):ZjU w:=trivial
def Oo(w:World)(O:Nat->Prop):Prop:=∃T:Nat->Prop,(∀b,T b->b<w.heap.size/\¬O b)/\∀w':World,(∀b,T b->w'.heap[b]?=w.heap[b]?)->ZjU w'
theorem Oo.of{w:World}{O:Nat->Prop}(h:∀w:World,ZjU w):Oo w O:=⟨λ_=>False,λ_ h=>h.elim,λw' _=>h w'⟩
theorem JV{w:World}{O:Nat->Prop}:Oo w O:=.of ZnZ
inductive PV where
 |v (x:Value)
 |ud
 |un
 |sl (es:List (List PV))
 |rp (cs:List PV)
 |ms (l:Nat)
 |ss (l a b:Nat)
 |be (l i o:Nat)
 |ag (cs:List PV)
 |tu (vs:List PV)
 |fn (f:FuncId) (cs:List PV)
instance :Inhabited PV:=⟨.un⟩
structure TK where
 t:TypeId
 kd:Option TypeId
def TK.of(n:TypeId):TK:=⟨n,ZB⟩
instance :Coe TypeId TK:=⟨TK.of⟩
@[simp] theorem TK.t_n(n:Nat):(TK.of n).t=n:=rfl
@[simp] theorem TK.ZrB(n:Nat):(TK.of n).kd=none:=rfl
def Zcj:PV->Bool
 |.sl (_::_)=>ZD
 |_=>ZC
def TK.stb(T:TK)(b:Bool):TK:=match T.kd with
 |none=>T
 |some _=>if b=ZC then T else⟨T.t,ZB⟩
def TK.st(T:TK)(qs:List PV):TK:=T.stb (qs.all Zcj)
def TK.sts(T:TK)(es:List (List PV)):TK:=T.stb (es.all λqs=>qs.all Zcj)
@[simp] theorem TK.ZrG(n:Nat)(qs:List PV):(TK.of n).st qs=TK.of n:=rfl
@[simp] theorem TK.ZqL(n:Nat)(es:List (List PV)):(TK.of n).sts es=TK.of n:=rfl
theorem TK.ZjN(T:TK)(b:Bool):(T.stb b).t=T.t:=by
 unfold TK.stb
 grind
theorem TK.ZnX(T:TK)(qs:List PV):(T.st qs).t=T.t:=T.ZjN _
theorem TK.Rw(T:TK)(es:List (List PV)):(T.sts es).t=T.t:=T.ZjN _
theorem TK.Zgt{T:TK}{b:Bool}{T':TypeId}(h:(T.stb b).kd=ZA T'):T.kd=ZA T'/\b=true:=by
 unfold TK.stb at h
 grind
theorem Nq{qs:List PV}(h:qs.all Zcj=ZC){es:List (List PV)}(hj:qs[j]?=ZA (.sl es)):es=[]:=by
 have:=VS.1 h _ (VI hj)
 cases es with
 |nil=>rfl
 |cons a l=>cases this
structure MB where
 T:TK
 k:Nat
 es:List (List PV)
abbrev Mem:=List (Option MB)
inductive cf(w:World)(S:Nat->Prop):PV->Value->Prop
 |v (x:Value) (h:x.oneCell'=ZC):cf w S (.v x) x
 |ud:cf w S .ud ZH
 |un (x:Value):cf w S .un x
 |nil (A:Option Addr) (c:Nat):cf w S (.sl []) (.slice A 0 c)
 |sl (es:List (List PV)) (b off k c:Nat) (u:Nat->Nat->Value) (hS:S b) (hk:0<k) (hn:es.length<=c) (hm:c<=maxLen)
  (zq:∀(i:Nat) (cs:List PV),es[i]?=ZA cs->cs.length=k)
  (hc:∀(i:Nat) (cs:List PV) (j:Nat) (p:PV),es[i]?=ZA cs->cs[j]?=ZA p->w.cell? ⟨b,off+i*k+j,ZB⟩=ZA (u i j))
  (h1:∀(i:Nat) (cs:List PV) (j:Nat) (p:PV),es[i]?=ZA cs->cs[j]?=ZA p->(u i j).oneCell'=ZC)
  (hr:∀(i:Nat) (cs:List PV) (j:Nat) (p:PV),es[i]?=ZA cs->cs[j]?=ZA p->cf w S p (u i j)):cf w S (.sl es) (.slice (ZA ⟨b,off,ZB⟩) es.length c)
 |rp (cs:List PV) (b off:Nat) (u:Nat->Value) (hS:S b)
  (hc:∀(j:Nat) (p:PV),cs[j]?=ZA p->w.cell? ⟨b,off+j,ZB⟩=ZA (u j))
  (h1:∀(j:Nat) (p:PV),cs[j]?=ZA p->(u j).oneCell'=ZC)
  (hr:∀(j:Nat) (p:PV),cs[j]?=ZA p->cf w S p (u j)):cf w S (.rp cs) (.pointer (ZA ⟨b,off,ZB⟩))
 |fn (f:FuncId) (cs:List PV) (vs:Array Value) (hl:vs.size=cs.length)
  (hr:∀(j:Nat) (p:PV) (x:Value),cs[j]?=ZA p->vs[j]?=ZA x->cf w S p x):cf w S (.fn f cs) (.func (.func f) #[] vs)
structure cL where
 b:Nat
 c:Nat
 n:Nat
 k:Nat
 T:TypeId
 z:Bool
def cL.sv(B:cL):Value:=if B.z then .slice ZB 0 0 else .slice (ZA ⟨B.b,0,ZB⟩) B.n B.c
abbrev Key:=Nat×Nat×Nat
structure Env where
 S:Nat->Prop
 β:Nat->Option cL
 used:Nat->Prop
 ω:Nat->Key->Prop
inductive cN(w:World)(E:Env):PV->Value->Prop
 |c {p:PV} {x:Value} (h:cf w E.S p x):cN w E p x
 |ms (l:Nat) (x:Value) (hl:E.used l) (h1:x.oneCell'=ZC) (h:∀B,E.β l=ZA B->x=B.sv):cN w E (.ms l) x
 |ss (l a b:Nat) (x:Value) (hl:E.used l) (h1:x.oneCell'=ZC) (h:∀B,E.β l=ZA B->(∃A c,x=.slice A (b-a) c/\a<=b/\b<=B.n/\(a<b->B.z=ZD/\A=ZA ⟨B.b,a*B.k,ZB⟩/\b-a<=c/\c<=maxLen))/\(a=0->B.z=ZD->∃n,x=.slice (ZA ⟨B.b,0,ZB⟩) n B.c)):cN w E (.ss l a b) x
 |be (l i o:Nat) (x:Value) (hl:E.used l) (h1:x.oneCell'=ZC) (h:∀B,E.β l=ZA B->B.z=ZD/\x=.pointer (ZA ⟨B.b,i*B.k+o,ZB⟩)):cN w E (.be l i o) x
 |ag (cs:List PV) (vs:Array Value) (hl:vs.size=cs.length) (h1:∀(j:Nat) (x:Value),vs[j]?=ZA x->x.oneCell'=ZC)
  (hr:∀(j:Nat) (p:PV) (x:Value),cs[j]?=ZA p->vs[j]?=ZA x->cN w E p x):cN w E (.ag cs) (.agg vs)
 |tu (ps:List PV) (vs:Array Value) (hl:vs.size=ps.length)
  (hr:∀(j:Nat) (p:PV) (x:Value),ps[j]?=ZA p->vs[j]?=ZA x->cN w E p x):cN w E (.tu ps) (.tuple vs)
 |fn (f:FuncId) (cs:List PV) (vs:Array Value) (hl:vs.size=cs.length)
  (hr:∀(j:Nat) (p:PV) (x:Value),cs[j]?=ZA p->vs[j]?=ZA x->cN w E p x):cN w E (.fn f cs) (.func (.func f) #[] vs)
def mz(β:Nat->Option cL)(b:Nat):Prop:=∃l B,β l=ZA B/\B.z=ZD/\B.b=b
structure Ext(w w':World)(E E':Env):Prop where
 S:∀b,E.S b->E'.S b
 cell:∀b o,E.S b->w'.cell? ⟨b,o,ZB⟩=w.cell? ⟨b,o,ZB⟩
 β:∀l B,E.used l->E'.β l=ZA B->E.β l=ZA B
 used:∀l,E.used l->E'.used l
 S':∀b,E'.S b->E.S b\/w.heap.size<=b\/mz E.β b
 own:∀b,mz E'.β b->mz E.β b\/w.heap.size<=b
 size:w.heap.size<=w'.heap.size
 ω:∀b k,E.ω b k->E'.ω b k/\w'.heap[b]?=w.heap[b]?
 ω':∀b k,E'.ω b k->E.ω b k\/w.heap.size<=b\/mz E.β b
theorem Ext.refl(w:World)(E:Env):Ext w w E E:=⟨λ_ h=>h,λ_ _ _=>rfl,λ_ _ _ h=>h,λ_ h=>h,λ_ h=>.inl h,λ_ h=>.inl h,VJ _,λ_ _ h=>⟨h,rfl⟩,λ_ _ h=>.inl h⟩
theorem Ext.trans{w w1 w2:World}{E E1 E2:Env}(h:Ext w w1 E E1)(k:Ext w1 w2 E1 E2):Ext w w2 E E2:=
 ⟨λb hb=>k.S b (h.S b hb),λb o hb=>(k.cell b o (h.S b hb)).trans (h.cell b o hb),λl B hl hB=>h.β l B hl (k.β l B (h.used l hl) hB),λl hl=>k.used l (h.used l hl),
  λb hb=>by
   rcases k.S' b hb with h1|h1|h1
   ·exact h.S' b h1
   ·exact .inr (.inl (Wb h.size h1))
   ·rcases h.own b h1 with h2|h2
    all_goals grind,λb hb=>by
   rcases k.own b hb with h1|h1
   ·exact h.own b h1
   ·exact .inr (Wb h.size h1),Wb h.size k.size,λb q hq=>⟨(k.ω b q (h.ω b q hq).1).1,(k.ω b q (h.ω b q hq).1).2.trans (h.ω b q hq).2⟩,λb q hq=>by
   rcases k.ω' b q hq with h1|h1|h1
   ·exact h.ω' b q h1
   ·exact .inr (.inl (Wb h.size h1))
   ·rcases h.own b h1 with h2|h2
    all_goals grind⟩
theorem cf.ext{w w':World}{S S':Nat->Prop}(hS:∀b,S b->S' b)(hc:∀b o,S b->w'.cell? ⟨b,o,ZB⟩=w.cell? ⟨b,o,ZB⟩){p:PV}(h:cf w S p x):cf w' S' p x:=by
 induction h with
 |v x h=>exact .v x h
 |ud=>exact .ud
 |un x=>exact .un x
 |nil A c=>exact .nil A c
 |sl es b off k c u hSb hk hn hm zq Gf h1 hr ih=>
  exact .sl es b off k c u (hS b hSb) hk hn hm zq (λi cs j p h h'=>(hc _ _ hSb).trans (Gf i cs j p h h')) h1 ih
 |rp cs b off u hSb Gf h1 hr ih=>
  exact .rp cs b off u (hS b hSb) (λj p h=>(hc _ _ hSb).trans (Gf j p h)) h1 ih
 |fn f cs vs hl hr ih=>exact .fn f cs vs hl ih
theorem cN.ext{w w':World}{E E':Env}(hx:Ext w w' E E'){p:PV}{x:Value}(h:cN w E p x):cN w' E' p x:=by
 induction h with
 |c h=>exact .c (h.ext hx.S hx.cell)
 |ms l x hl h1 h=>exact .ms l x (hx.used l hl) h1 λB hB=>h B (hx.β l B hl hB)
 |ss l a b x hl h1 h=>exact .ss l a b x (hx.used l hl) h1 λB hB=>h B (hx.β l B hl hB)
 |be l i o x hl h1 h=>exact .be l i o x (hx.used l hl) h1 λB hB=>h B (hx.β l B hl hB)
 |ag cs vs hl h1 hr ih=>exact .ag cs vs hl h1 ih
 |tu ps vs hl hr ih=>exact .tu ps vs hl ih
 |fn f cs vs hl hr ih=>exact .fn f cs vs hl ih
def Ho(w:World)(E:Env)(T:TypeId)(q:Key)(es:List (List PV))(x:Value):Prop:=
 ∃b c k cs,x=.slice (ZA ⟨b,0,ZB⟩) es.length c/\E.ω b q/\w.heap[b]?=ZA (.cells cs T (0,0))/\cs.size=c*k/\0<k/\es.length<=c/\c<=maxLen/\∀e∈es,e.length=k
theorem Ho.ext{w w':World}{E E':Env}{q:Key}{es:List (List PV)}(h:Ho w E T q es x)(hx:Ext w w' E E'):Ho w' E' T q es x:=by
 obtain⟨b,c,k,cs,h1,h2,h3,h4⟩:=h;exact⟨b,c,k,cs,h1,(hx.ω b q h2).1,(hx.ω b q h2).2.trans h3,h4⟩
structure dA(w:World)(E:Env)(mb:MB)(B:cL):Prop where
 k:B.k=mb.k
 n:B.n=mb.es.length
 T:B.T=mb.T.t
 pos:0<B.k
 nc:B.n<=B.c
 cm:B.c<=maxLen
 es:∀(i:Nat) (cs:List PV),mb.es[i]?=ZA cs->cs.length=B.k
 nil:B.z=ZC->mb.es=[]
 mem:B.z=ZD->∃cells:Array Value,w.heap[B.b]?=ZA (.cells cells B.T (0,0))/\cells.size=B.c*B.k/\
  ∀(i:Nat) (cs:List PV) (j:Nat) (p:PV),mb.es[i]?=ZA cs->cs[j]?=ZA p->∃x,cells[i*B.k+j]?=ZA x/\x.oneCell'=ZC/\cN w E p x
 key:∀T,mb.T.kd=ZA T->B.z=ZD->∀(i:Nat) (cs:List PV) (j:Nat) (es:List (List PV)) (x:Value),mb.es[i]?=ZA cs->cs[j]?=ZA (.sl es)->es≠[]->w.cell? ⟨B.b,i*B.k+j,ZB⟩=ZA x->Ho w E T (mb.T.t,i,j) es x
theorem dA.Zlq{w:World}{E:Env}{T T':TK}{es:List (List PV)}{B:cL}(h:dA w E ⟨T,k,es⟩ B)(ht:T'.t=T.t)(hq:∀T1,T'.kd=ZA T1->∀cs∈es,cs.all Zcj=ZC):dA w E ⟨T',k,es⟩ B:=
 ⟨h.k,h.n,h.T.trans ht.symm,h.pos,h.nc,h.cm,h.es,h.nil,h.mem,λT1 hT _ i cs j vC x hi hj dX _=>absurd (Nq (hq T1 hT cs (VI hi)) hj) dX⟩
theorem dA.part{w:World}{E:Env}{mb:MB}{B:cL}(h:dA w E mb B){b:Nat}(hb:b<=B.n):dA w E ⟨mb.T,mb.k,mb.es.take b⟩ ⟨B.b,B.c,b,B.k,B.T,B.z⟩:=by
 have get:∀{i:Nat} {cs:List PV},(mb.es.take b)[i]?=ZA cs->mb.es[i]?=ZA cs:=λhi=>by
  grind
 refine⟨h.k,?_,h.T,h.pos,Wb hb h.nc,h.cm,λi cs hi=>h.es i cs (get hi),λhz=>?_,λhz=>?_,λT hT hz i cs j es x hi hj dX hc=>h.key T hT hz i cs j es x (get hi) hj dX hc⟩
 ·rw[V3,Nat.min_eq_left (by rw[<-h.n];omega)]
 ·rw[h.nil hz,List.take_nil]
 ·obtain⟨cells,m1,m2,m3⟩:=h.mem hz
  grind
theorem N4{T:TK}{es:List (List PV)}{T1:TypeId}(h:(T.sts es).kd=ZA T1):T.kd=ZA T1/\∀cs∈es,cs.all Zcj=true:=by
 obtain⟨h1,h2⟩:=TK.Zgt h
 grind
theorem dA.full{w:World}{E:Env}{mb:MB}{B:cL}(h:dA w E mb B){cs:List PV}(hi:mb.es[i]?=ZA cs):B.z=false:=by
 cases hz:B.z with
 |false=>rfl
 |true=>rw[h.nil hz]at hi;grind
theorem dA.Zjr{w:World}{E:Env}{mb:MB}{B:cL}(h:dA w E mb B)(hi:0<mb.es.length):B.z=false:=by
 cases hz:B.z with
 |false=>rfl
 |true=>rw[h.nil hz]at hi;grind
structure mA(O:Nat->Prop)(w0 w:World):Prop where
 os:w.os=w0.os
 tape:w.tape=w0.tape
 output:w.output=w0.output
 size:w0.heap.size<=w.heap.size
 block:∀b,b<w0.heap.size->¬O b->w.heap[b]?=w0.heap[b]?
theorem mA.refl(O:Nat->Prop)(w:World):mA O w w:=⟨rfl,rfl,rfl,VJ _,λ_ _ _=>rfl⟩
theorem mA.trans{O O':Nat->Prop}{a b c:World}(h:mA O a b)(k:mA O' b c)(hO:∀x,x<a.heap.size->O' x->O x):mA O a c:=
 ⟨k.os.trans h.os,k.tape.trans h.tape,k.output.trans h.output,Wb h.size k.size,λx hx hn=>(k.block x (V4 hx h.size) λh'=>hn (hO x hx h')).trans (h.block x hx hn)⟩
theorem mA.none{w w':World}(h:mA (λ_=>False) w w'):Up w w':=⟨h.os,h.tape,h.output,h.size,λb hb=>h.block b hb λh=>h⟩
structure Ok(w0:World)(O:Nat->Prop)(E:Env)(w:World)(m:Mem):Prop where
 up:mA O w0 w
 sz:∀b,E.S b->b<w.heap.size
 own:∀l B,E.β l=ZA B->B.z=ZD->(O B.b\/w0.heap.size<=B.b)/\B.b<w.heap.size/\¬E.S B.b
 inj:∀l l' B B',E.β l=ZA B->E.β l'=ZA B'->B.z=ZD->B'.z=ZD->B.b=B'.b->l=l'
 used:∀l,E.used l->l<m.length
 bu:∀l B,E.β l=ZA B->E.used l
 mem:∀l mb,m[l]?=ZA (ZA mb)->∃B,E.β l=ZA B/\dA w E mb B
 dom:∀l B,E.β l=ZA B->∃mb,m[l]?=ZA (ZA mb)
 tab:Oo w0 O
 ow:∀b q,E.ω b q->E.S b/\∀q',E.ω b q'->q'=q
theorem Ok.Zqo{w0:World}{O:Nat->Prop}{E:Env}{w:World}{m:Mem}(h:Ok w0 O E w m){O':Nat->Prop}(hO:∀b,O' b->O b\/w0.heap.size<=b):Oo w O':=by
 obtain⟨T,h1,h2⟩:=h.tab;refine⟨T,λb hb=>⟨V4 (h1 b hb).1 h.up.size,λho=>?_⟩,λw' hw'=>h2 w' λb hb=>(hw' b hb).trans (h.up.block b (h1 b hb).1 (h1 b hb).2)⟩
 grind
theorem cell_of_heap{w w':World}{b o:Nat}(h:w'.heap[b]?=w.heap[b]?):w'.cell? ⟨b,o,ZB⟩=w.cell? ⟨b,o,ZB⟩:=by simp[World.cell?,h]
theorem dA.ext{w w':World}{E E':Env}{mb:MB}{B:cL}(h:dA w E mb B)(hx:Ext w w' E E')(hh:B.z=ZD->w'.heap[B.b]?=w.heap[B.b]?):dA w' E' mb B:=by
 refine⟨h.k,h.n,h.T,h.pos,h.nc,h.cm,h.es,h.nil,λhz=>?_,λT hT hz i cs j es x hi hj dX hc=>(h.key T hT hz i cs j es x hi hj dX (by rw[<-cell_of_heap (hh hz)];omega)).ext hx⟩
 obtain⟨cells,h1,h2,h3⟩:=h.mem hz;exact⟨cells,(hh hz).trans h1,h2,λi cs j p e e'=>by
  obtain⟨x,a,b,c⟩:=h3 i cs j p e e';exact⟨x,a,b,c.ext hx⟩⟩
def py(m:Mem)(ν:Nat)(mb:MB):Mem:=(m++VW (ν+1-m.length) ZB).set ν (ZA mb)
theorem Jf(m:Mem)(ν:Nat)(mb:MB):(py m ν mb).length=max m.length (ν+1):=by simp[py];omega
theorem xR(m:Mem)(ν:Nat)(mb:MB):(py m ν mb)[ν]?=ZA (ZA mb):=by
 unfold py
 grind
theorem DB{m:Mem}{mb nZ:MB}(h:l≠ν):(py m ν mb)[l]?=ZA (ZA nZ)↔m[l]?=ZA (ZA nZ):=by
 unfold py
 grind
def Env.add(E:Env)(ν:Nat)(B:cL):Env:={ S:=E.S,β:=λl'=>if l'=ν then ZA B else E.β l',used:=λl=>l=ν\/E.used l,ω:=E.ω}
theorem Ok.new{w0 w w':World}{O:Nat->Prop}{E:Env}{m:Mem}(h:Ok w0 O E w m){ν:Nat}(Av:¬E.used ν)(mb:MB)(B:cL)
 (hos:w'.os=w.os) (PM:w'.tape=w.tape) (PL:w'.output=w.output) (Dd:w.heap.size<=w'.heap.size) (hh:∀b,b<w.heap.size->w'.heap[b]?=w.heap[b]?)
 (hB:B.z=ZD->w.heap.size<=B.b/\B.b<w'.heap.size) (hb:Ext w w' E (E.add ν B)->dA w' (E.add ν B) mb B):
 Ok w0 O (E.add ν B) w' (py m ν mb)/\Ext w w' E (E.add ν B):=by
 have Cp:∀{l:Nat} {B':cL},(E.add ν B).β l=ZA B'->l≠ν->E.β l=ZA B':=λlB hl=>by simpa[Env.add,hl]using lB
 have new:∀{B':cL},(E.add ν B).β ν=ZA B'->B'=B:=λlB=>by simpa[Env.add,eq_comm]using lB
 have hx:Ext w w' E (E.add ν B):=by
  refine⟨λ_ hb=>hb,λb o hb=>cell_of_heap (hh b (h.sz b hb)),λl B' hl lB=>Cp lB (λe=>Av (e▸hl)),λl hl=>.inr hl,λ_ hb=>.inl hb,?_,Dd,λb q hq=>⟨hq,hh b (h.sz b (h.ow b q hq).1)⟩,λ_ _ h=>.inl h⟩
  rintro b ⟨l,B',lB,hz,rfl⟩
  by_cases hl:l=ν
  ·grind
  ·exact .inl ⟨l,B',Cp lB hl,hz,rfl⟩
 refine⟨⟨⟨hos.trans h.up.os,PM.trans h.up.tape,PL.trans h.up.output,Wb h.up.size Dd,λk hk hn=>(hh k Zn).trans (h.up.block k hk hn)⟩,
  λb hb=>by have:=h.sz b hb;omega,?_,?_,?_,?_,?_,?_,h.tab,h.ow⟩,hx⟩
 ·intro l B' lB hz
  by_cases hl:l=ν
  ·subst hl
   obtain rfl:=new lB;obtain⟨b1,b2⟩:=hB hz;exact⟨.inr Zn,b2,λhS=>by have:=h.sz _ hS;omega⟩
  ·obtain⟨a,b,d⟩:=h.own l B' (Cp lB hl) hz
   exact⟨a,YG,d⟩
 ·intro l l' B1 B2 h1 h2 z1 z2 e
  by_cases hl:l=ν<;>by_cases PJ:l'=ν
  ·omega
  ·have:=(h.own l' B2 (Cp h2 PJ) z2).2.1
   grind
  ·have:=(h.own l B1 (Cp h1 hl) z1).2.1
   grind
  ·exact h.inj l l' B1 B2 (Cp h1 hl) (Cp h2 PJ) z1 z2 e
 ·intro l hl
  rw[Jf]
  rcases hl with rfl|hl
  ·omega
  ·have:=h.used l hl;omega
 ·intro l B' lB
  by_cases hl:l=ν
  ·exact .inl hl
  ·exact .inr (h.bu l B' (Cp lB hl))
 ·intro l nZ Kg
  by_cases hl:l=ν
  ·subst hl
   rw[xR]at Kg
   obtain rfl:mb=nZ:=by grind
   exact⟨B,by simp[Env.add],hb hx⟩
  ·rw[DB hl]at Kg
   obtain⟨B',lB,GQ⟩:=h.mem l nZ Kg;exact⟨B',by simpa[Env.add,hl]using lB,GQ.ext hx λhz=>hh _ (h.own l B' lB hz).2.1⟩
 ·intro l B' lB
  by_cases hl:l=ν
  ·subst hl;exact⟨mb,xR _ _ _⟩
  ·obtain⟨nZ,Kg⟩:=h.dom l B' (Cp lB hl)
   exact⟨nZ,(DB hl).2 Kg⟩
theorem Ok.put{w0 w w':World}{O:Nat->Prop}{E:Env}{m:Mem}(h:Ok w0 O E w m){B:cL}(hB:E.β l=ZA B)(hz:B.z=ZD)(mb:MB)
 (hos:w'.os=w.os) (PM:w'.tape=w.tape) (PL:w'.output=w.output) (Dd:w'.heap.size=w.heap.size) (hh:∀b,b≠B.b->w'.heap[b]?=w.heap[b]?)
 (hb:Ext w w' E E->dA w' E mb B):Ok w0 O E w' (m.set l (ZA mb))/\Ext w w' E E:=by
 obtain⟨o1,o2,o3⟩:=h.own l B hB hz;have hx:Ext w w' E E:=⟨λ_ hb=>hb,λb o hb=>cell_of_heap (hh b (λe=>o3 (e▸hb))),λ_ _ _ h=>h,λ_ h=>h,λ_ hb=>.inl hb,λ_ hb=>.inl hb,YG,λb q hq=>⟨hq,hh b (λe=>o3 (e▸(h.ow b q hq).1))⟩,λ_ _ h=>.inl h⟩
 have AY:=h.used l (h.bu l B hB);refine⟨⟨⟨hos.trans h.up.os,PM.trans h.up.tape,PL.trans h.up.output,by rw[Dd];exact h.up.size,λk hk hn=>(hh k (λe=>by
  grind)).trans (h.up.block k hk hn)⟩,
  λb hb=>by rw[Dd];exact h.sz b hb,λl' B' lB vF=>by rw[Dd];exact h.own l' B' lB vF,h.inj,λl' PJ=>by rw[Ws];exact h.used l' PJ,h.bu,?_,?_,h.tab,h.ow⟩,hx⟩
 ·intro l' nZ Kg
  by_cases hl:l'=l
  ·grind
  ·rw[Wk (λe=>hl e.symm)]at Kg
   obtain⟨B',lB,GQ⟩:=h.mem l' nZ Kg;exact⟨B',lB,GQ.ext hx λvF=>hh _ (λe=>hl (h.inj l' l B' B lB hB vF hz e))⟩
 ·intro l' B' lB
  by_cases hl:l'=l
  ·simp_all
  ·obtain⟨nZ,Kg⟩:=h.dom l' B' lB
   grind
def Env.move(E:Env)(l ν:Nat)(B:cL):Env:={ S:=E.S,β:=λi=>if i=ν then ZA B else if i=l then ZB else E.β i,used:=λi=>i=ν\/E.used i,ω:=E.ω}
theorem Ok.move{w0 w w':World}{O:Nat->Prop}{E:Env}{m:Mem}(h:Ok w0 O E w m){ν:Nat}(Av:¬E.used ν){l:Nat}{B:cL}(hB:E.β l=ZA B)(mb:MB)(B':cL)
 (hos:w'.os=w.os) (PM:w'.tape=w.tape) (PL:w'.output=w.output) (Dd:w.heap.size<=w'.heap.size) (hh:∀b,b<w.heap.size->(B.z=ZD->b≠B.b)->w'.heap[b]?=w.heap[b]?)
 (lB:B'.z=ZD->(B.z=ZD/\B'.b=B.b)\/w.heap.size<=B'.b) (bO:B'.z=ZD->B'.b<w'.heap.size) (hb:Ext w w' E (E.move l ν B')->dA w' (E.move l ν B') mb B'):
 Ok w0 O (E.move l ν B') w' (py (m.set l ZB) ν mb)/\Ext w w' E (E.move l ν B'):=by
 have hlu:=h.bu l B hB;have Cp:∀{i:Nat} {B1:cL},(E.move l ν B').β i=ZA B1->i≠ν->i≠l/\E.β i=ZA B1:=by
  intro i B1 BK hi;simp only[Env.move]at BK
  grind
 have new:∀{B1:cL},(E.move l ν B').β ν=ZA B1->B1=B':=λBK=>by simpa[Env.move,eq_comm]using BK
 have K8:∀b,E.S b->w'.heap[b]?=w.heap[b]?:=λb hb=>hh b (h.sz b hb) (λhz e=>(h.own l B hB hz).2.2 (e▸hb))
 have hx:Ext w w' E (E.move l ν B'):=
  ⟨λ_ hb=>hb,λb o hb=>cell_of_heap (K8 b hb),λi B1 hi BK=>(Cp BK (λe=>Av (e▸hi))).2,λ_ hl=>.inr hl,λ_ hb=>.inl hb,λb ho=>by
   obtain⟨i,B1,BK,hz,rfl⟩:=ho
   by_cases hi:i=ν
   ·subst hi
    obtain rfl:=new BK
    rcases lB hz with⟨e1,e'⟩ |e'
    ·exact .inl ⟨l,B,hB,e1,e'.symm⟩
    omega
   ·exact .inl ⟨i,B1,(Cp BK hi).2,hz,rfl⟩,Dd,λb q hq=>⟨hq,K8 b (h.ow b q hq).1⟩,λ_ _ h=>.inl h⟩
 have apart:∀i B1,E.β i=ZA B1->i≠l->B1.z=ZD->B'.z=ZD->B1.b≠B'.b:=by
  intro i B1 BK hi hz vF e
  rcases lB vF with⟨e1,e'⟩ |e'
  ·exact hi (h.inj i l B1 B BK hB hz e1 (e.trans e'))
  ·have:=(h.own i B1 BK hz).2.1;omega
 refine⟨⟨⟨hos.trans h.up.os,PM.trans h.up.tape,PL.trans h.up.output,Wb h.up.size Dd,λk hk hn=>(hh k Zn (λhz e=>by
  rcases(h.own l B hB hz).1 with o1|o1
  all_goals grind)).trans (h.up.block k hk hn)⟩,
  λb hb=>by have:=h.sz b hb;omega,?_,?_,?_,?_,?_,?_,h.tab,h.ow⟩,hx⟩
 ·intro i B1 BK hz
  by_cases hi:i=ν
  ·subst hi
   obtain rfl:=new BK;refine⟨?_,bO hz,?_⟩
   ·rcases lB hz with⟨e1,e'⟩ |e'
    ·rw[e'];exact(h.own l B hB e1).1
    ·exact .inr Zn
   ·intro hS
    rcases lB hz with⟨e1,e'⟩ |e'
    ·rw[e']at hS;exact(h.own l B hB e1).2.2 hS
    ·have:=h.sz _ hS;omega
  ·obtain⟨_,h2⟩:=Cp BK hi
   obtain⟨a,b,d⟩:=h.own i B1 h2 hz;exact⟨a,YG,d⟩
 ·intro i i' B1 B2 h1 h2 z1 z2 e
  by_cases hi:i=ν<;>by_cases lS:i'=ν
  ·omega
  ·grind
  ·grind
  ·exact h.inj i i' B1 B2 (Cp h1 hi).2 (Cp h2 lS).2 z1 z2 e
 ·intro i hi
  rw[Jf,Ws]
  rcases hi with rfl|hi
  ·omega
  ·have:=h.used i hi;omega
 ·intro i B1 BK
  by_cases hi:i=ν
  ·exact .inl hi
  ·exact .inr (h.bu i B1 (Cp BK hi).2)
 ·intro i nZ Kg
  by_cases hi:i=ν
  ·subst hi
   rw[xR]at Kg
   have e:mb=nZ:=by simp_all
   subst e;exact⟨B',by simp[Env.move],hb hx⟩
  ·rw[DB hi]at Kg
   have wI:i≠l:=by
    grind
   rw[Wk (λe=>wI e.symm)]at Kg
   obtain⟨B1,BK,uQ⟩:=h.mem i nZ Kg;refine⟨B1,by simp[Env.move,hi,wI,BK],uQ.ext hx λhz=>hh _ (h.own i B1 BK hz).2.1 (λvF e=>wI (h.inj i l B1 B BK hB hz vF e))⟩
 ·intro i B1 BK
  by_cases hi:i=ν
  ·subst hi;exact⟨mb,xR _ _ _⟩
  ·obtain⟨h3,h4⟩:=Cp BK hi
   obtain⟨nZ,Kg⟩:=h.dom i B1 h4;refine⟨nZ,(DB hi).2 ?_⟩
   grind
theorem Ok.drew{w0 w:World}{O:Nat->Prop}{E:Env}{m:Mem}(h:Ok w0 O E w m)(n:Nat):Ok w0 O E (w.drewN n) m/\Ext w (w.drewN n) E E:=by
 have hx:Ext w (w.drewN n) E E:=⟨λ_ h=>h,λ_ _ _=>rfl,λ_ _ _ h=>h,λ_ h=>h,λ_ h=>.inl h,λ_ h=>.inl h,VJ _,λ_ _ h=>⟨h,rfl⟩,λ_ _ h=>.inl h⟩
 exact⟨⟨⟨h.up.os,h.up.tape,h.up.output,h.up.size,h.up.block⟩,h.sz,h.own,h.inj,h.used,h.bu,λl mb hm=>by obtain⟨B,hB,hb⟩:=h.mem l mb hm;exact⟨B,hB,hb.ext hx λ_=>rfl⟩,h.dom,h.tab,h.ow⟩,hx⟩
def Zdt(cs:Array Value):Bool:=cs.toList.all (·.oneCell')
def Ziw:Value->PV
 |.agg cs=>if Zdt cs then .ag (cs.toList.map .v)else .un
 |.tuple _=>.un
 |x=>.v x
def fS(t:List PV):Operand->PV
 |.tmp i=>t.getD i .un
 |.const x=>Ziw x
 |.func f=>.v (.func (.func f) #[] #[])
 |.global _=>.un
def uP(w:World)(E:Env)(t:List PV)(tm:Array Value):Prop:=tm.size=t.length/\∀i p,t[i]?=ZA p->cN w E p (tm.getD i ZH)
section
variable {w:World} {O:Nat->Prop} {E:Env} {w0:World} {m:Mem}
theorem cN.un'(x:Value):cN w E .un x:=.c (.un x)
theorem cN.cF{a x:Value}(h:cN w E (.v a) x):x=a/\a.oneCell'=true:=by
 cases h with
 |c h=>cases h with|v _ h=>exact⟨rfl,h⟩
theorem cN.xp{es:List (List PV)}(h:cN w E (.sl es) x):cf w E.S (.sl es) x:=by cases h with|c h=>exact h
theorem cN.Uk{cs:List PV}(h:cN w E (.rp cs) x):cf w E.S (.rp cs) x:=by cases h with|c h=>exact h
theorem cN.pb{cs:List PV}(h:cN w E (.ag cs) x):∃vs:Array Value,x=.agg vs/\vs.size=cs.length/\(∀(j:Nat) (x:Value),vs[j]?=ZA x->x.oneCell'=ZC)/\∀(j:Nat) (p:PV) (x:Value),cs[j]?=ZA p->vs[j]?=ZA x->cN w E p x:=by
 cases h with
 |c h=>cases h
 |ag _ vs hl h1 hr=>exact⟨vs,rfl,hl,h1,hr⟩
theorem cN.Ck{ps:List PV}(h:cN w E (.tu ps) x):∃vs:Array Value,x=.tuple vs/\vs.size=ps.length/\∀(j:Nat) (p:PV) (x:Value),ps[j]?=ZA p->vs[j]?=ZA x->cN w E p x:=by
 cases h with
 |c h=>cases h
 |tu _ vs hl hr=>exact⟨vs,rfl,hl,hr⟩
theorem cN.ln(hk:Ok w0 O E w m){mb:MB}(hm:m[l]?=ZA (ZA mb))(h:cN w E (.ms l) x):∃B,E.β l=ZA B/\dA w E mb B/\x=B.sv:=by
 obtain⟨B,hB,hb⟩:=hk.mem l mb hm
 cases h with
 |c h=>cases h
 |ms _ _ _ _ h=>exact⟨B,hB,hb,h B hB⟩
theorem cN.EZ(hk:Ok w0 O E w m){l a b:Nat}{mb:MB}(hm:m[l]?=ZA (ZA mb))(h:cN w E (.ss l a b) x):∃B,E.β l=ZA B/\dA w E mb B/\
 ∃A c,x=.slice A (b-a) c/\a<=b/\b<=B.n/\(a<b->B.z=ZD/\A=ZA ⟨B.b,a*B.k,ZB⟩/\b-a<=c/\c<=maxLen):=by
 obtain⟨B,hB,hb⟩:=hk.mem l mb hm
 cases h with
 |c h=>cases h
 |ss _ _ _ _ _ _ h=>exact⟨B,hB,hb,(h B hB).1⟩
theorem cN.ZaA(hk:Ok w0 O E w m){l b:Nat}{mb:MB}(hm:m[l]?=ZA (ZA mb))(h:cN w E (.ss l 0 b) x):∃B,E.β l=ZA B/\dA w E mb B/\b<=B.n/\(B.z=ZD->x=.slice (ZA ⟨B.b,0,ZB⟩) b B.c)/\∃A c,x=.slice A b c:=by
 obtain⟨B,hB,hb⟩:=hk.mem l mb hm
 cases h with
 |c h=>cases h
 |ss _ _ _ _ _ _ h=>
  obtain⟨⟨A,c,rfl,_,h2,_⟩,h0⟩:=h B hB;refine⟨B,hB,hb,h2,λhz=>?_,_,_,rfl⟩
  obtain⟨n,e⟩:=h0 rfl hz
  cases e
  rfl
theorem cN.HJ(hk:Ok w0 O E w m){l i o:Nat}{mb:MB}(hm:m[l]?=ZA (ZA mb))(h:cN w E (.be l i o) x):∃B,E.β l=ZA B/\dA w E mb B/\B.z=ZD/\x=.pointer (ZA ⟨B.b,i*B.k+o,ZB⟩):=by
 obtain⟨B,hB,hb⟩:=hk.mem l mb hm
 cases h with
 |c h=>cases h
 |be _ _ _ _ _ _ h=>exact⟨B,hB,hb,h B hB⟩
theorem cN.Mt{f:FuncId}{cs:List PV}(h:cN w E (.fn f cs) x):∃vs:Array Value,x=.func (.func f) #[] vs/\vs.size=cs.length/\∀(j:Nat) (p:PV) (x:Value),cs[j]?=ZA p->vs[j]?=ZA x->cN w E p x:=by
 cases h with
 |c h=>cases h with
  |fn _ _ vs hl hr=>exact⟨vs,rfl,hl,λj p x hp hx=>.c (hr j p x hp hx)⟩
 |fn _ _ vs hl hr=>exact⟨vs,rfl,hl,hr⟩
theorem mn(hk:Ok w0 O E w m){mb:MB}(hm:m[l]?=ZA (ZA mb)):E.used l:=by
 obtain⟨B,hB,_⟩:=hk.mem l mb hm;exact hk.bu l B hB
theorem QK(x:Value):cN w E (Ziw x) x:=by
 unfold Ziw
 split
 ·rename_i cs
  split
  ·rename_i h
   have CW:∀v∈cs.toList,v.oneCell'=true:=by simp only[Zdt,VS]at h;exact h
   refine .ag _ _ YJ (λj x hx=>CW x (by simpa using Array.mem_of_getElem? hx)) λj p x hp hx=>?_
   have e:p=.v x:=by simpa[hx,eq_comm]using hp
   subst e;exact .c (.v x (CW x (by simpa using Array.mem_of_getElem? hx)))
  ·exact .un' _
 ·exact .un' _
 ·rename_i h1 h2
  refine .c (.v x ?_)
  cases x<;>simp_all[Value.oneCell']
theorem CO{t:List PV}{a:Act}(h:uP w E t a.tmps)(o:Operand):cN w E (fS t o) (a.eval o):=by
 cases o with
 |tmp i=>
  simp only[fS,Act.eval]
  rcases Wg i t.length with hi|hi
  ·have:=h.2 i _ (VF hi)
   simpa[W8,VF hi]using this
  ·have e:t.getD i .un=.un:=by simp[W8,List.getElem?_eq_none hi]
   rw[e];exact .un' _
 |const x=>exact QK x
 |global g=>exact .un' _
 |func f=>exact .c (.v _ rfl)
def pc:PV->Option (List PV)
 |.ag cs=>ZA cs
 |.v x=>ZA [.v x]
 |.sl es=>ZA [.sl es]
 |.rp cs=>ZA [.rp cs]
 |.ms l=>ZA [.ms l]
 |.ss l a b=>ZA [.ss l a b]
 |.be l i o=>ZA [.be l i o]
 |.fn f cs=>ZA [.fn f cs]
 |_=>ZB
theorem cells_one(h:x.oneCell'=ZC):x.cells=#[x]:=by cases x<;>simp_all[Value.oneCell',Value.cells]
theorem cf.one{S:Nat->Prop}{p:PV}(h:cf w S p x)(h1:p≠.ud)(h2:p≠.un):x.oneCell'=true:=by
 cases h<;>first|rfl|assumption|contradiction
theorem NM{p:PV}(h:cN w E p x){cs:List PV}(hp:pc p=ZA cs):x.cells.size=cs.length/\∀(j:Nat) (q:PV),cs[j]?=ZA q->∃y,x.cells[j]?=ZA y/\y.oneCell'=ZC/\cN w E q y:=by
 have one:x.oneCell'=ZC->cs=[p]->x.cells.size=cs.length/\∀(j:Nat) (q:PV),cs[j]?=ZA q->∃y,x.cells[j]?=ZA y/\y.oneCell'=ZC/\cN w E q y:=by
  intro h1 e;subst e;rw[cells_one h1];refine⟨rfl,λj q hq=>?_⟩
  cases j with
  |zero=>obtain rfl:p=q:=by simpa using hq
         exact⟨x,rfl,h1,h⟩
  |succ j=>simp at hq
 cases h with
 |c h=>
  cases h with
  |v _ h1=>exact one h1 YW
  |ud=>simp[pc]at hp
  |un=>simp[pc]at hp
  |nil A c=>exact one rfl YW
  |sl=>exact one rfl YW
  |rp=>exact one rfl YW
  |fn=>exact one rfl YW
 |ms l _ hl h1=>exact one h1 YW
 |ss l a b _ hl h1=>exact one h1 YW
 |fn=>exact one rfl YW
 |be l i o _ hl h1=>exact one h1 YW
 |ag sm vs hl h1 hr=>
  obtain rfl:sm=cs:=by simpa[pc]using hp
  refine⟨hl,λj q hq=>?_⟩
  have hj:j<vs.size:=by rw[hl];exact(VH.1 hq).1
  exact⟨vs[j],VU hj,h1 j _ (VU hj),hr j q _ hq (VU hj)⟩
 |tu=>simp[pc]at hp
def Si(m:Mem):PV->Option (List PV)
 |.be l i o=>match m[l]? with
  |some (ZA mb)=>(mb.es[i]?).map (·.drop o)
  |_=>ZB
 |.rp cs=>ZA cs
 |_=>ZB
theorem Zan(hk:Ok w0 O E w m){p:PV}(h:cN w E p x){cs:List PV}(hp:Si m p=ZA cs):
 ∃b off,x=.pointer (ZA ⟨b,off,ZB⟩)/\b<w.heap.size/\∀(j:Nat) (q:PV),cs[j]?=ZA q->∃y,w.cell? ⟨b,off+j,ZB⟩=ZA y/\y.oneCell'=ZC/\cN w E q y:=by
 cases p with
 |be l i o=>
  simp only[Si]at hp
  split at hp
  ·rename_i mb hm
   obtain⟨B,hB,hb,hz,rfl⟩:=h.HJ hk hm;obtain⟨sm,ZkD,rfl⟩:=VT.1 hp;refine⟨B.b,_,rfl,(hk.own l B hB hz).2.1,λj q hq=>?_⟩
   obtain⟨cells,h1,h2,h3⟩:=hb.mem hz;rw[WK]at hq
   obtain⟨y,a,b,c⟩:=h3 i sm (o+j) q ZkD hq;exact⟨y,by rw[cell_of_row w B.b _ cells B.T (0,0) h1,Xv];exact a,b,c⟩
  ·cases hp
 |rp sm=>
  obtain rfl:sm=cs:=by simpa[Si]using hp
  cases h.Uk with
  |rp _ b off u hS hc h1 hr=>exact⟨b,off,rfl,hk.sz b hS,λj q hq=>⟨u j,hc j q hq,h1 j q hq,.c (hr j q hq)⟩⟩
 |_=>simp[Si]at hp
def J7:TypeDesc->Bool
 |.struct _|.array _ _=>ZC
 |_=>ZD
theorem vH{P:Program}{d:TypeDesc}(h:P.underlying t=ZA d)(w:World):(isAgg t).run P w=.ok (J7 d) w:=by
 unfold isAgg;rw[Sem.run_bind,run_underlying h w]
 cases d<;>simp[J7]
theorem MW{P:Program}{d:TypeDesc}(h:P.underlying t=ZA d):∃i,P.info? t=ZA i/\i.size=P.cellsOf t/\i.bytes=P.bytesOf t:=by
 unfold Program.underlying at h
 cases hi:P.info? t with
 |none=>simp[hi]at h
 |some i=>exact⟨i,rfl,by simp[Program.cellsOf,hi],by simp[Program.bytesOf,hi]⟩
theorem kb{P:Program}(h:0<P.cellsOf t):∃i,P.info? t=ZA i/\i.size=P.cellsOf t:=by
 unfold Program.cellsOf at *
 cases hi:P.info? t with
 |none=>simp[hi]at h
 |some i=>exact⟨i,rfl,by simp⟩
theorem run_sizeOf{P:Program}{i:TypeInfo}(h:P.info? t=ZA i)(w:World):(sizeOf t).run P w=.ok i.size w:=by
 simp[sizeOf,typeInfo,h]
def va(P:Program)(T:TypeId)(cs:Option (List PV))(K:PV->Prop):Prop:=
 match P.underlying T,cs with
 |some d,ZA cs=>match J7 d with
  |true=>P.cellsOf T<=cs.length/\K (.ag (cs.take (P.cellsOf T)))
  |false=>match cs with
   |c::_=>K c
   | []=>False
 |_,_=>False
theorem Lu{P:Program}{cs:List PV}{K:PV->Prop}(h:va P T (ZA cs) K){b off:Nat}(hb:b<w.heap.size)
 (hc:∀(j:Nat) (q:PV),cs[j]?=ZA q->∃y,w.cell? ⟨b,off+j,ZB⟩=ZA y/\y.oneCell'=ZC/\cN w E q y):
 ∃p x,K p/\(∀w',Up w w'->(loadVar T ⟨b,off,ZB⟩).run P w'=.ok x w')/\cN w E p x:=by
 unfold va at h
 split at h
 ·rename_i d sm hd gl
  obtain rfl:cs=sm:=by simpa using gl
  obtain⟨i,hi,hs,_⟩:=MW hd
  split at h
  ·rename_i J3
   obtain⟨hle,hK⟩:=h;have hex:∀j:Fin (P.cellsOf T),∃y,w.cell? ⟨b,off+j,ZB⟩=ZA y/\y.oneCell'=ZC/\∀q,cs[j.1]?=ZA q->cN w E q y:=by
    intro j;have hj:j.1<cs.length:=YG;obtain⟨y,h1,h2,h3⟩:=hc j.1 _ (VF hj);exact⟨y,h1,h2,λq hq=>by rw[VF hj]at hq;cases hq;exact h3⟩
   obtain⟨f,hf⟩:=Classical.axiomOfChoice hex;refine⟨_,.agg (Array.ofFn f),hK,λw' hu=>?_,?_⟩
   ·have hl:(loadCells ⟨b,off,ZB⟩ (XE f).length).run P w'=.ok (XE f).toArray w':=run_loadCells_list (P:=P) w' _ (XE f) λj v hv=>by
     have hj:j<P.cellsOf T:=by have:=(VH.1 hv).1;simpa using this
     have e:(⟨b,off,ZB⟩:Addr).add j=⟨b,off+j,ZB⟩:=by unfold Addr.add;split<;>simp_all
     rw[e,hu.cell (p:=⟨b,off+j,ZB⟩) hb,(hf ⟨j,hj⟩).1]
     simpa[hj]using hv
    simp only[List.length_ofFn]at hl
    have e2:(XE f).toArray=Array.ofFn f:=by simp
    rw[e2]at hl
    simp[loadVar,vH hd,J3,run_sizeOf hi,hs,hl]
   ·refine .ag _ _ YR (λj x hx=>?_) λj p x hp hx=>?_
    ·have hj:j<P.cellsOf T:=by have:=(VQ.1 hx).1;simpa using this
     have:f ⟨j,hj⟩=x:=by simpa[hj]using hx
     rw[<-this];exact(hf ⟨j,hj⟩).2.1
    ·have hj:j<P.cellsOf T:=by have:=(VQ.1 hx).1;simpa using this
     have:f ⟨j,hj⟩=x:=by simpa[hj]using hx
     rw[<-this];rw[W0 hj]at hp
     exact(hf ⟨j,hj⟩).2.2 p hp
  ·rename_i J3
   split at h
   ·rename_i c sm
    obtain⟨y,h1,h2,h3⟩:=hc 0 c rfl;refine⟨c,y,h,λw' hu=>?_,h3⟩
    have Mv:w'.cell? ⟨b,off,ZB⟩=ZA y:=(hu.cell (p:=⟨b,off,ZB⟩) hb).trans h1;simp[loadVar,vH hd,J3,Mv]
   ·exact h.elim
 ·exact h.elim
theorem TH{P:Program}{cs:List PV}{K:PV->Prop}(h:va P T (ZA (cs.drop off)) K){vs:Array Value}(hl:vs.size=cs.length)
 (h1:∀(j:Nat) (x:Value),vs[j]?=ZA x->x.oneCell'=ZC) (hr:∀(j:Nat) (p:PV) (x:Value),cs[j]?=ZA p->vs[j]?=ZA x->cN w E p x):
 ∃p x,K p/\(∀w',(part T vs off).run P w'=.ok x w')/\cN w E p x:=by
 unfold va at h
 split at h
 ·rename_i d sm hd gl
  obtain rfl:cs.drop off=sm:=by simpa using gl
  obtain⟨i,hi,hs,_⟩:=MW hd
  split at h
  ·rename_i J3
   obtain⟨hle,hK⟩:=h;rw[WH]at hle
   refine⟨_,.agg (vs.extract off (off+P.cellsOf T)),hK,λw'=>?_,?_⟩
   ·simp[part,vH hd,J3,run_sizeOf hi,hs]
   ·refine .ag _ _ YR (λj x hx=>?_) λj p x hp hx=>?_
    ·rw[Array.getElem?_extract]at hx
     split at hx
     ·exact h1 _ _ hx
     ·cases hx
    ·rw[Array.getElem?_extract]at hx
     split at hx
     ·rename_i hj
      rw[W0 YG,WK]at hp
      exact hr _ p x hp hx
     ·cases hx
  ·rename_i J3
   split at h
   ·rename_i c sm ZkD
    have hc:cs[off]?=ZA c:=by
     have:(cs.drop off)[0]?=ZA c:=by rw[ZkD];rfl
     simpa using this
    have ho:off<vs.size:=by rw[hl];exact(VH.1 hc).1
    refine⟨c,vs[off],h,λw'=>?_,hr off c _ hc (VU ho)⟩
    simp[part,vH hd,J3,VU ho]
   ·exact h.elim
 ·exact h.elim
end
def ZnY(a b:ByteArray):Bool:=ZE (a.size+b.size<=9223372036854775807)
def uu(a b:ByteArray):Bool:=Op.bytesLess a.toList b.toList
def Us(a b:ByteArray):Bool:=Op.bytesLess a.toList b.toList ||a.toList==b.toList
theorem Int.HZ(a b:Int):(a==b)=ZE (a=b):=rfl
theorem baL(a b:ByteArray):(a.toList=b.toList)=(a=b):=by
 obtain⟨⟨x⟩⟩:=a;obtain⟨⟨y⟩⟩:=b;simp
theorem baB(a b:ByteArray):(a.toList==b.toList)=ZE (a=b):=by
 rw[Bool.eq_iff_iff,beq_iff_eq,baL,decide_eq_true_eq]
def Zg2(P:Program)(op:BinOp)(T:TypeId):Value->Value->Option Value
 |.int k a,.int k' b=>
  match op with
  |.shl=>if 0<=b then ZA (.int k (k.wrap (a*2 ^ (min b.toNat k.bits))))else ZB
  |.shr=>if 0<=b then ZA (.int k (a.fdiv (2 ^ (min b.toNat k.bits))))else ZB
  |.add=>if k=k' then ZA (.int k (k.wrap (a+b)))else ZB
  |.sub=>if k=k' then ZA (.int k (k.wrap (a-b)))else ZB
  |.mul=>if k=k' then ZA (.int k (k.wrap (a*b)))else ZB
  |.quo=>if k=k'/\b≠0 then ZA (.int k (k.wrap (a.tdiv b)))else ZB
  |.rem=>if k=k'/\b≠0 then ZA (.int k (a.tmod b))else ZB
  |.and=>if k=k' then ZA (.int k (k.wrap (WC k.bits a &&& WC k.bits b).toNat))else ZB
  |.or=>if k=k' then ZA (.int k (k.wrap (WC k.bits a |||WC k.bits b).toNat))else ZB
  |.xor=>if k=k' then ZA (.int k (k.wrap (WC k.bits a ^^^ WC k.bits b).toNat))else ZB
  |.eql=>if k=k' then ZA (.bool (ZE (a=b)))else ZB
  |.neq=>if k=k' then ZA (.bool (!decide (a=b)))else ZB
  |.lss=>if k=k' then ZA (.bool (ZE (a<b)))else ZB
  |.leq=>if k=k' then ZA (.bool (ZE (a<=b)))else ZB
  |.gtr=>if k=k' then ZA (.bool (ZE (b<a)))else ZB
  |.geq=>if k=k' then ZA (.bool (ZE (b<=a)))else ZB
  |_=>ZB
 |.string a,.string b=>
  match op with
  |.add=>if ZnY a b=ZC then ZA (.string (a++b))else ZB
  |.eql=>ZA (.bool (ZE (a=b)))
  |.neq=>ZA (.bool !decide (a=b))
  |.lss=>ZA (.bool (uu a b))
  |.leq=>ZA (.bool (Us a b))
  |.gtr=>ZA (.bool !Us a b)
  |.geq=>ZA (.bool !uu a b)
  |_=>ZB
 |.bool a,.bool b=>match P.underlying T with
  |some .bool=>match op with
   |.eql=>ZA (.bool (a==b))
   |.neq=>ZA (.bool !(a==b))
   |_=>ZB
  |_=>ZB
 |_,_=>ZB
theorem OG{P:Program}{x y:Operand}{a b r:Value}(h:Zg2 P op T a b=ZA r)(w:World):
 ((do eqGuard op T x y a b;binOp op T a b:Sem Value).run P w)=.ok r w/\r.oneCell'=true:=by
 unfold Zg2 at h
 split at h
 ·rename_i k a k' b
  cases op<;>simp only[W3,VR,reduceCtorEq]at h
  all_goals first
   |(obtain⟨⟨rfl,h0⟩,rfl⟩:=h;simp[eqGuard,binOp,Op.intDiv,h0,Value.oneCell'])
   |(obtain⟨rfl,rfl⟩:=h;simp[eqGuard,binOp,Op.intArith,Op.intBits,Op.intCmp,Value.oneCell',bne];done)
   |(obtain⟨rfl,rfl⟩:=h;exact⟨by simp[eqGuard,binOp,Op.intCmp,bne,Int.HZ],rfl⟩)
   |(obtain⟨h0,rfl⟩:=h
     have h1:¬b<0:=YG;simp[eqGuard,binOp,Op.shift,h1,Value.oneCell'])
 ·rename_i a b
  cases op<;>simp only[W3,VR,reduceCtorEq]at h
  all_goals first
   |(subst h;simp[eqGuard,binOp,Op.stringOp,Value.oneCell',uu,Us,baB];done)
   |(obtain⟨h0,rfl⟩:=h
     have h0:a.size+b.size<=9223372036854775807:=YA h0;simp only[eqGuard,binOp,Op.stringOp];simp[Value.oneCell'];omega)
 ·rename_i a b
  split at h
  ·rename_i hu
   cases op<;>simp only[VR,reduceCtorEq]at h
   all_goals(subst h;simp[eqGuard,binOp,Op.equal,Op.maxDepth,run_equalIn_bool' w _ _ _ _ hu,Value.oneCell'])
  ·cases h
 ·cases h
def Ix(P:Program):Nat->TypeId->List PV->List PV->Option Bool
 |0,_,_,_=>ZB
 |d+1,T,cs,ds=>
  match P.underlying T with
  |some .bool=>match cs,ds with
   |.v (.bool a)::_,.v (.bool b)::_=>ZA (a==b)
   |_,_=>ZB
  |some (.int _)=>match cs,ds with
   |.v (.int k a)::_,.v (.int k' b)::_=>if k=k' then ZA (a==b)else ZB
   |_,_=>ZB
  |some .string=>match cs,ds with
   |.v (.string a)::_,.v (.string b)::_=>ZA (a.toList==b.toList)
   |_,_=>ZB
  |some (.struct _)=>if P.stoodInHeld T then ZB else
   (P.fieldsOf T).toList.foldr (λf acc => if f.name = "_" then ZB else match Ix P d f.type ((cs.drop f.offset).take (P.cellsOf f.type)) ((ds.drop f.offset).take (P.cellsOf f.type)), acc with
    |some r,ZA s=>ZA (r&&s)
    |_,_=>ZB) (ZA ZC)
  |_=>ZB
section
variable {w:World} {O:Nat->Prop} {E:Env} {w0:World} {m:Mem} {P:Program}
def yW(w:World)(E:Env)(P:Program)(T:TypeId)(cs:List PV)(x:Value):Prop:=
 ∀d,P.underlying T=ZA d->(J7 d=ZC->∃vs:Array Value,x=.agg vs/\∀(j:Nat) (p:PV),cs[j]?=ZA p->∃v,vs[j]?=ZA v/\cN w E p v)/\(J7 d=ZD->∀p,cs[0]?=ZA p->cN w E p x)
theorem Vc:∀(d:Nat) (T:TypeId) (cs ds:List PV) (x y:Value) (r:Bool),Ix P d T cs ds=ZA r->yW w E P T cs x->yW w E P T ds y->∀w':World,(Op.equalIn d T x y).run P w'=.ok r w'
 |0,_,_,_,_,_,_,h,_,_,_=>by simp[Ix]at h
 |d+1,T,cs,ds,x,y,r,h,hx,hy,w'=>by
  unfold Ix at h
  split at h
  ·rename_i hu
   split at h
   ·rename_i a _ b _
    have h1:=((hx _ hu).2 rfl _ rfl).cF.1;have h2:=((hy _ hu).2 rfl _ rfl).cF.1;subst h1 h2;simp only[VR]at h
    subst h;exact run_equalIn_bool' w' _ _ _ _ hu
   ·cases h
  ·rename_i k0 hu
   split at h
   ·rename_i k a _ k' b _
    simp only[W3,VR]at h
    obtain⟨rfl,rfl⟩:=h;have h1:=((hx _ hu).2 rfl _ rfl).cF.1;have h2:=((hy _ hu).2 rfl _ rfl).cF.1;subst h1 h2;simp[Op.equalIn,run_underlying hu]
   ·cases h
  ·rename_i hu
   split at h
   ·rename_i a _ b _
    have h1:=((hx _ hu).2 rfl _ rfl).cF.1;have h2:=((hy _ hu).2 rfl _ rfl).cF.1;subst h1 h2;simp only[VR]at h
    subst h;exact run_equalIn_string w' _ _ _ _ hu
   ·cases h
  ·rename_i fs hu
   simp only[Yb]at h
   obtain⟨xu,h⟩:=h;have Zpy:P.stoodInHeld T=false:=by simpa using xu
   obtain⟨vs,rfl,hvs⟩:=(hx _ hu).1 rfl;obtain⟨us,rfl,hus⟩:=(hy _ hu).1 rfl;have hf:P.fieldsOf T=fs:=by simp[Program.fieldsOf,hu]
   rw[run_equalIn_struct w' d T vs us (by rw[hf];exact hu) Zpy,hf]
   rw[hf]at h
   generalize fs.toList=l at h
   clear hu hf
   induction l generalizing r with
   |nil=>simp only[List.foldr_nil,VR]at h;subst h;simp[Op.eqFields]
   |cons f l ih=>
    simp only[List.foldr_cons,Yb]at h
    obtain⟨hn,h⟩:=h
    split at h
    ·rename_i r1 r2 h1 h2
     simp only[VR]at h
     subst h;have Zaf:∀{zs:Array Value} {es:List PV},(∀(j:Nat) (p:PV),es[j]?=ZA p->∃v,zs[j]?=ZA v/\cN w E p v)->((es.drop f.offset).take (P.cellsOf f.type))≠[]\/(∃fs,P.underlying f.type=ZA (.struct fs))->
      (∃dd,P.underlying f.type=ZA dd)->∃z,(part f.type zs f.offset).run P w'=.ok z w'/\yW w E P f.type ((es.drop f.offset).take (P.cellsOf f.type)) z:=by
      intro zs es hz dX ⟨dd,hd⟩;obtain⟨i,hi,hs,_⟩:=MW hd
      cases J3:J7 dd with
      |true=>
       refine⟨.agg (zs.extract f.offset (f.offset+P.cellsOf f.type)),by simp[part,vH hd,J3,run_sizeOf hi,hs],?_⟩
       intro d' yL
       grind
      |false=>
       have ZkL:((es.drop f.offset).take (P.cellsOf f.type))≠[]:=by
        rcases dX with h|⟨fs,h⟩
        ·exact h
        ·rw[hd]at h;cases h;simp[J7]at J3
       obtain⟨p,hp⟩:∃p,((es.drop f.offset).take (P.cellsOf f.type))[0]?=ZA p:=by
        cases hq:((es.drop f.offset).take (P.cellsOf f.type))with
        |nil=>exact absurd hq ZkL
        |cons a _=>exact⟨a,rfl⟩
       have hp':es[f.offset]?=ZA p:=by
        rw[WT]at hp
        split at hp
        ·simpa using hp
        ·cases hp
       obtain⟨v,h1,h2⟩:=hz _ p hp';refine⟨v,by simp[part,vH hd,J3,h1],?_⟩
       intro d' yL;rw[hd]at yL;cases yL;refine⟨λh=>(by rw[J3]at h;cases h),λ_ q hq=>?_⟩
       rw[hp]at hq;cases hq;exact h2
     have MS:(((cs.drop f.offset).take (P.cellsOf f.type))≠[]\/(∃fs,P.underlying f.type=ZA (.struct fs)))/\(((ds.drop f.offset).take (P.cellsOf f.type))≠[]\/(∃fs,P.underlying f.type=ZA (.struct fs)))/\∃dd,P.underlying f.type=ZA dd:=by
      cases d with
      |zero=>simp[Ix]at h1
      |succ d=>
       unfold Ix at h1
       split at h1
       ·rename_i EB
        split at h1
        ·rename_i e1 e2;exact⟨.inl (by rw[e1];simp),.inl (by rw[e2];simp),_,EB⟩
        ·cases h1
       ·rename_i EB
        split at h1
        ·rename_i e1 e2;exact⟨.inl (by rw[e1];simp),.inl (by rw[e2];simp),_,EB⟩
        ·cases h1
       ·rename_i EB
        split at h1
        ·rename_i e1 e2;exact⟨.inl (by rw[e1];simp),.inl (by rw[e2];simp),_,EB⟩
        ·cases h1
       ·rename_i fs' EB
        exact⟨.inr ⟨fs',EB⟩,.inr ⟨fs',EB⟩,_,EB⟩
       ·cases h1
     obtain⟨a,ha,hac⟩:=Zaf hvs MS.1 MS.2.2;obtain⟨b,hb,hbc⟩:=Zaf hus MS.2.1 MS.2.2;have hr:=Vc d f.type _ _ a b r1 h1 hac hbc w';simp only[Op.eqFields,hn,ne_eq,not_false_eq_true,if_true,Sem.run_bind,ha,hb,hr,Result.andThen_ok,Sem.run_ite]
     cases r1 with
     |true=>simpa using ih r2 h2
     |false=>simp
    ·cases h
  ·cases h
def Nv(o:Option Value)(K:PV->Prop):Prop:=match o with
 |some r=>K (.v r)
 |none=>False
def yS(P:Program)(op:BinOp)(T:TypeId)(cs ds:List PV)(K:PV->Prop):Prop:=P.eqGuardType P.depth T=ZD/\match P.underlying T,Ix P 10000 T cs ds with
    |some (.struct _),ZA r=>match op with
     |.eql=>K (.v (.bool r))
     |.neq=>K (.v (.bool !r))
     |_=>False
    |_,_=>False
def QC(P:Program)(op:BinOp)(T:TypeId)(x y:PV)(K:PV->Prop):Prop:=
 match x,y with
 |.v a,.v b=>Nv (Zg2 P op T a b) K
 |.ag cs,.ag ds=>yS P op T cs ds K
 |_,_=>False
theorem TC{ox oy:Operand}{p q:PV}(hx:cN w E p x)(hy:cN w E q y){K:PV->Prop}(h:QC P op T p q K):
 ∃r v,K r/\(∀w',((do eqGuard op T ox oy x y;binOp op T x y:Sem Value).run P w')=.ok v w')/\cN w E r v:=by
 unfold QC at h
 split at h
 ·rename_i a b
  obtain⟨rfl,_⟩:=hx.cF;obtain⟨rfl,_⟩:=hy.cF;unfold Nv at h
  split at h
  ·rename_i r hr
   exact⟨_,r,h,λw'=>(OG hr w').1,.c (.v r (OG (x:=ox) (y:=oy) hr w).2)⟩
  ·exact h.elim
 ·rename_i cs ds
  obtain⟨hg,h⟩:=h;obtain⟨vs,rfl,hl,_,hr⟩:=hx.pb;obtain⟨us,rfl,PJ,_,hr'⟩:=hy.pb
  split at h
  ·rename_i fs r hu he
   have c1:yW w E P T cs (.agg vs):=by
    intro d hd;rw[hu]at hd;cases hd;refine⟨λ_=>⟨vs,rfl,λj p hp=>?_⟩,λh=>by simp[J7]at h⟩
    have hj:j<vs.size:=by grind
    exact⟨vs[j],VU hj,hr j p _ hp (VU hj)⟩
   have c2:yW w E P T ds (.agg us):=by
    intro d hd;rw[hu]at hd;cases hd;refine⟨λ_=>⟨us,rfl,λj p hp=>?_⟩,λh=>by simp[J7]at h⟩
    have hj:j<us.size:=by grind
    exact⟨us[j],VU hj,hr' j p _ hp (VU hj)⟩
   have kn:=λw'=>Vc (w:=w) (E:=E) 10000 T cs ds _ _ r he c1 c2 w'
   split at h
   ·exact⟨_,.bool r,h,λw'=>by simp[Sem.run_bind,run_eqGuard_agg w' _ _ _ _ _ _ hg,Result.andThen_ok,run_eql_struct,kn],.c (.v _ rfl)⟩
   ·exact⟨_,.bool !r,h,λw'=>by simp only[Sem.run_bind,run_eqGuard_agg w' _ _ _ _ _ _ hg,Result.andThen_ok,run_neq_struct,kn],.c (.v _ rfl)⟩
   ·exact h.elim
  ·exact h.elim
 ·exact h.elim
end
section
variable {w:World} {O:Nat->Prop} {E:Env} {w0:World} {m:Mem} {P:Program}
def pUn(op:UnOp)(x:PV)(K:PV->Prop):Prop:=
 match op,x with
 |.not,.v (.bool b)=>K (.v (.bool !b))
 |.neg,.v (.int k n)=>K (.v (.int k (k.wrap (0-n))))
 |_,_=>False
theorem Zcp{op:UnOp}{p:PV}(hx:cN w E p x){K:PV->Prop}(h:pUn op p K):∃r v,K r/\(∀w',(Op.unary op x).run P w'=.ok v w')/\cN w E r v:=by
 unfold pUn at h
 split at h
 ·obtain⟨rfl,_⟩:=hx.cF
  exact⟨_,_,h,λw'=>by simp[Op.unary],.c (.v _ rfl)⟩
 ·obtain⟨rfl,_⟩:=hx.cF
  exact⟨_,_,h,λw'=>by simp[Op.unary,Op.intArith],.c (.v _ rfl)⟩
 ·exact h.elim
def Jo(P:Program)(s d:TypeId)(x:PV)(K:PV->Prop):Prop:=
 match P.underlying s,P.underlying d,x with
 |some (.int _),ZA (.int k),.v (.int _ n)=>K (.v (.int k (k.wrap n)))
 |some .string,ZA .string,.v (.string t)=>K (.v (.string t))
 |_,_,_=>False
theorem QE{s d:TypeId}{p:PV}(hx:cN w E p x){K:PV->Prop}(h:Jo P s d p K):∃r v,K r/\(∀w',(convert s d x).run P w'=.ok v w')/\cN w E r v:=by
 unfold Jo at h
 split at h
 ·rename_i _ k _ n h1 h2
  obtain⟨rfl,_⟩:=hx.cF;exact⟨_,_,h,λw'=>by simp[convert,run_underlying h1,run_underlying h2,Conv.intToInt],.c (.v _ rfl)⟩
 ·rename_i t h1 h2
  obtain⟨rfl,_⟩:=hx.cF;exact⟨_,_,h,λw'=>by simp[convert,run_underlying h1,run_underlying h2],.c (.v _ rfl)⟩
 ·exact h.elim
def live(m:Mem)(l:Nat)(K:MB->Prop):Prop:=
 match m[l]? with
 |some (ZA mb)=>K mb
 |_=>False
theorem iE{K:MB->Prop}(h:live m l K):∃mb,m[l]?=ZA (ZA mb)/\K mb:=by
 unfold live at h
 split at h
 ·exact⟨_,by assumption,h⟩
 ·exact h.elim
def NA(x:Option PV)(d:Int):Option Int:=
 match x with
 |none=>ZA d
 |some (.v (.int _ i))=>ZA i
 |_=>ZB
def lq(P:Program)(m:Mem)(T:TypeId)(x:PV)(lo hi:Option PV)(K:PV->Prop):Prop:=
 match P.underlying T,x with
 |some .string,.v (.string s)=>match NA lo 0,NA hi s.size with
  |some l,ZA h=>0<=l/\l<=h/\h<=s.size/\K (.v (.string (s.extract l.toNat h.toNat)))
  |_,_=>False
 |some (.slice e),.sl es=>match NA lo 0,NA hi es.length with
  |some l,ZA h=>0<=l/\l<=h/\h<=es.length/\0<P.cellsOf e/\(∀cs∈es,cs.length=P.cellsOf e)/\K (.sl ((es.drop l.toNat).take (h.toNat-l.toNat)))
  |_,_=>False
 |some (.slice e),.ms r=>live m r λmb=>match NA lo 0,NA hi mb.es.length with
  |some l,ZA h=>0<=l/\l<=h/\h<=mb.es.length/\0<P.cellsOf e/\mb.k=P.cellsOf e/\K (.ss r l.toNat h.toNat)
  |_,_=>False
 |some (.slice e),.ss r a b=>live m r λmb=>match NA lo 0,NA hi (b-a:Nat)with
  |some l,ZA h=>0<=l/\l<=h/\h<=(b-a:Nat)/\0<P.cellsOf e/\mb.k=P.cellsOf e/\K (.ss r (a+l.toNat) (a+h.toNat))
  |_,_=>False
 |some (.slice e),.v (.slice ZB 0 0)=>match NA lo 0,NA hi 0 with
  |some l,ZA h=>0<=l/\l<=h/\h<=0/\0<P.cellsOf e/\K (.sl [])
  |_,_=>False
 |_,_=>False
theorem run_sliceBound{y:Nat}{c:BoundsCode}{k:IntKind}{i:Int}(h0:0<=i)(h1:i<=y)(w':World):(Instr.sliceBound (.int k i) y c).run P w'=.ok i.toNat w':=by
 simp[Instr.sliceBound,asIntOf,h0,h1]
theorem uq{x:Option PV}{v:Option Value}{d l:Int}(h:NA x d=ZA l)(hx:∀p,x=ZA p->∃y,v=ZA y/\cN w E p y)(hn:x=ZB->v=ZB):(v=ZB/\l=d/\x=ZB)\/∃k,v=ZA (.int k l):=by
 unfold NA at h
 split at h
 ·exact .inl ⟨hn rfl,by simpa[eq_comm]using h,rfl⟩
 ·rename_i k i
  obtain⟨y,hy,hr⟩:=hx _ rfl;obtain⟨rfl,_⟩:=hr.cF;simp only[VR]at h
  subst h;exact .inr ⟨k,hy⟩
 ·cases h
theorem jL{isS:Bool}{len cap:Nat}{l h:Int}(hlo:(GH=ZB/\l=0)\/∃k,GH=ZA (.int k l))(hhi:(GF=ZB/\h=len)\/∃k,GF=ZA (.int k h))(h0:0<=l)(h1:l<=h)(h2:h<=len)(hc:len<=cap)(w':World):
 (Instr.sliceBounds isS len cap GH GF ZB).run P w'=.ok (l.toNat,h.toNat,cap) w':=by
 have e1:(l:Int)<=(h.toNat:Int):=YG;have e2:h<=(cap:Int):=YG;have e3:0<=h:=YG;have r1:∀k c,(Instr.sliceBound (.int k l) h.toNat c).run P w'=.ok l.toNat w':=λk c=>run_sliceBound h0 e1 w'
 have r2:∀k c,(Instr.sliceBound (.int k h) cap c).run P w'=.ok h.toNat w':=λk c=>run_sliceBound e3 e2 w'
 clear e1 e2 e3 hc h2
 rcases hlo with⟨rfl,rfl⟩ |⟨k,rfl⟩<;>rcases hhi with⟨rfl,rfl⟩ |⟨k',rfl⟩<;>
  (try simp only[Int.toNat_natCast]at r1)<;>simp[Instr.sliceBounds,r1,r2]
theorem vv{i:TypeInfo}(hu:P.underlying T=ZA (.slice e))(lS:P.info? e=ZA i)(hs:i.size=P.cellsOf e){A:Option Addr}{l hh:Int}{w':World}
 (hb:(Instr.sliceBounds ZC n c GH GF ZB).run P w'=.ok (l.toNat,hh.toNat,c) w'):
 (Instr.sliceAt T (.slice A n c) GH GF ZB).run P w'=.ok (.slice (if c=l.toNat then A else A.map (·.add (l.toNat*P.cellsOf e))) (hh.toNat-l.toNat) (c-l.toNat)) w':=by
 simp[Instr.sliceAt,Instr.slice,run_underlying hu,hb,run_sizeOf lS,hs]
theorem NI(hk:Ok w0 O E w m){p:PV}{lo hi:Option PV}(hx:cN w E p x)(h1:∀p,lo=ZA p->∃y,GH=ZA y/\cN w E p y)(h1n:lo=ZB->GH=ZB)
 (h2:∀p,hi=ZA p->∃y,GF=ZA y/\cN w E p y) (h2n:hi=ZB->GF=ZB) {K:PV->Prop} (h:lq P m T p lo hi K):
 ∃r v,K r/\(∀w',(Instr.sliceAt T x GH GF ZB).run P w'=.ok v w')/\cN w E r v:=by
 unfold lq at h
 split at h
 ·rename_i s hu
  obtain⟨rfl,_⟩:=hx.cF
  split at h
  ·rename_i l hh e1 e2
   obtain⟨a1,a2,a3,hK⟩:=h;refine⟨_,.string (s.extract l.toNat hh.toNat),hK,λw'=>?_,.c (.v _ rfl)⟩
   have b1:=uq e1 h1 h1n;have b2:=uq e2 h2 h2n;have hb:=jL (P:=P) (isS:=ZD) (len:=s.size) (cap:=s.size) (l:=l) (h:=hh) (GH:=GH) (GF:=GF) YP YS a1 a2 a3 (VJ _) w';simp[Instr.sliceAt,Instr.slice,run_underlying hu,hb]
  ·exact h.elim
 ·rename_i e es hu
  split at h
  ·rename_i l hh e1 e2
   obtain⟨a1,a2,a3,gD,hlen,hK⟩:=h;have b1:=uq e1 h1 h1n;have b2:=uq e2 h2 h2n;obtain⟨i,lS,hs⟩:=kb gD
   cases hx.xp with
   |nil A c=>
    simp only[List.length_nil]at a3 b2
    have Oj:l=0:=by simp at a3;omega
    have hh0:hh=0:=by simp at a3;omega
    subst Oj hh0;have hb:=jL (P:=P) (isS:=ZC) (len:=0) (cap:=c) (l:=0) (h:=0) (GH:=GH) (GF:=GF) YP YS YG YG YJ (WG _);refine⟨_,.slice (if c=0 then A else A.map (·.add 0)) 0 c,hK,λw'=>?_,?_⟩
    ·simp[Instr.sliceAt,Instr.slice,run_underlying hu,hb,run_sizeOf lS]
    ·simp only[Int.toNat_zero,List.drop_zero,Nat.sub_self,List.take_zero]
     exact .c (.nil _ _)
   |sl _ b off k c u hS hk hn hm zq hc Mv hr=>
    have hb:=jL (P:=P) (isS:=ZC) (len:=es.length) (cap:=c) (l:=l) (h:=hh) (GH:=GH) (GF:=GF) YP YS a1 a2 a3 hn;have bO:((es.drop l.toNat).take (hh.toNat-l.toNat)).length=hh.toNat-l.toNat:=by
     rw[V3,WH];omega
    refine⟨_,.slice (if c=l.toNat then ZA ⟨b,off,ZB⟩else ZA ((⟨b,off,ZB⟩:Addr).add (l.toNat*P.cellsOf e))) (hh.toNat-l.toNat) (c-l.toNat),hK,λw'=>?_,?_⟩
    ·simp[Instr.sliceAt,Instr.slice,run_underlying hu,hb,run_sizeOf lS,hs]
    ·rcases Nat.eq_zero_or_pos (hh.toNat-l.toNat)with h0|h0
     ·rw[h0];simp only[List.take_zero];exact .c (.nil _ _)
     ·have dX:¬c=l.toNat:=YG
      rw[if_neg dX];have hek:k=P.cellsOf e:=by
       have hl:l.toNat<es.length:=YG;exact(zq _ _ (VF hl)).symm.trans (hlen _ (List.getElem_mem hl))
      have ea:(⟨b,off,ZB⟩:Addr).add (l.toNat*P.cellsOf e)=⟨b,off+l.toNat*k,ZB⟩:=by rw[hek];unfold Addr.add;split<;>simp_all
      have get:∀{i:Nat} {cs:List PV},((es.drop l.toNat).take (hh.toNat-l.toNat))[i]?=ZA cs->es[l.toNat+i]?=ZA cs:=by
       intro i cs hi;rw[WT]at hi
       split at hi
       ·rwa[WK]at hi
       ·cases hi
      have key:=cf.sl (w:=w) (S:=E.S) ((es.drop l.toNat).take (hh.toNat-l.toNat)) b (off+l.toNat*k) k (c-l.toNat) (λi j=>u (l.toNat+i) j) hS hk (by rw[bO];omega) YG
       (λi cs hi=>zq _ cs (get hi)) (λi cs j p hi hj=>by
        have:=hc _ cs j p (get hi) hj;rw[Xm]at this
        rw[<-this]
        congr 2
        omega) (λi cs j p hi hj=>Mv _ cs j p (get hi) hj) (λi cs j p hi hj=>hr _ cs j p (get hi) hj)
      rw[bO]at key
      rw[ea];exact .c key
  ·exact h.elim
 ·rename_i e r hu
  obtain⟨mb,hm,h⟩:=iE h
  split at h
  ·rename_i l hh e1 e2
   obtain⟨a1,a2,a3,gD,J5,hK⟩:=h;have b1:=uq e1 h1 h1n;have b2:=uq e2 h2 h2n;obtain⟨i,lS,hs⟩:=kb gD;obtain⟨B,hB,hbr,rfl⟩:=hx.ln hk hm;have hbn:=hbr.n;have xt:=hbr.nc;have D2:∃A n c,B.sv=.slice A n c/\n=mb.es.length/\n<=c/\c<=maxLen/\(0<n->B.z=ZD/\A=ZA ⟨B.b,0,ZB⟩)/\(B.z=ZD->A=ZA ⟨B.b,0,ZB⟩/\c=B.c):=by
    cases hz:B.z with
    |true=>exact⟨ZB,0,0,by simp[cL.sv,hz],by rw[hbr.nil hz];rfl,YG,by unfold maxLen;omega,YG,λh=>nomatch h⟩
    |false=>exact⟨_,_,_,by simp[cL.sv,hz],hbn,xt,hbr.cm,λ_=>⟨rfl,rfl⟩,λ_=>⟨rfl,rfl⟩⟩
   obtain⟨A,n,c,La,hn,Zpt,Kd,hA,hA0⟩:=D2;rw[La];have hb:=jL (P:=P) (isS:=ZC) (len:=n) (cap:=c) (l:=l) (h:=hh) (GH:=GH) (GF:=GF) YP (by rcases b2 with⟨a,b,_⟩ |b;exact .inl ⟨a,by rw[b,hn]⟩;exact .inr b) a1 a2 (by rw[hn];exact a3) Zpt
   refine⟨_,_,hK,λw'=>vv hu lS hs (hb w'),.ss _ _ _ _ (mn hk hm) rfl λB' lB=>?_⟩
   rw[hB]at lB;cases lB;refine⟨⟨_,_,rfl,YG,YG,λbO=>?_⟩,λOj hz=>by
    obtain⟨rfl,rfl⟩:=hA0 hz;exact⟨_,by rw[Oj,XY,Nat.sub_zero];split<;>rfl⟩⟩
   obtain⟨hz,hA'⟩:=hA YG;refine⟨hz,?_,YG,YG⟩;rw[if_neg YG,hA'];have:(⟨B.b,0,ZB⟩:Addr).add (l.toNat*P.cellsOf e)=⟨B.b,l.toNat*B.k,ZB⟩:=by rw[hbr.k,J5];unfold Addr.add;split<;>simp_all
   simp[this]
  ·exact h.elim
 ·rename_i e r a b hu
  obtain⟨mb,hm,h⟩:=iE h
  split at h
  ·rename_i l hh e1 e2
   obtain⟨a1,a2,a3,gD,J5,hK⟩:=h;have b1:=uq e1 h1 h1n;have b2:=uq e2 h2 h2n;obtain⟨i,lS,hs⟩:=kb gD;have hx0:a=0->∃B,E.β r=ZA B/\(B.z=ZD->x=.slice (ZA ⟨B.b,0,ZB⟩) b B.c):=λh0=>by
    subst h0;obtain⟨B,hB,_,_,h,_⟩:=hx.ZaA hk hm;exact⟨B,hB,h⟩
   obtain⟨B,hB,hbr,A,c,rfl,IJ,hbB,hA⟩:=hx.EZ hk hm;have hx1:a=0->B.z=ZD->A=ZA ⟨B.b,0,ZB⟩/\c=B.c:=λh0 hz=>by
    obtain⟨B',lB,h⟩:=hx0 h0;rw[hB]at lB;cases lB;have:=h hz;injection this with e1 e2 e3
    exact⟨e1,e3⟩
   rcases Wg a b with bO|Ev
   ·obtain⟨hz,rfl,Kc,Of⟩:=hA bO
    have hb:=jL (P:=P) (isS:=ZC) (len:=b-a) (cap:=c) (l:=l) (h:=hh) (GH:=GH) (GF:=GF) YP YS a1 a2 a3 Kc;refine⟨_,_,hK,λw'=>vv hu lS hs (hb w'),.ss _ _ _ _ (mn hk hm) rfl λB' lB=>?_⟩
    rw[hB]at lB;cases lB;refine⟨⟨_,_,by congr 1;omega,YG,YG,λSS=>?_⟩,λOj hz=>by
     obtain⟨e1,rfl⟩:=hx1 YG hz;have e0:l.toNat=0:=YG;exact⟨_,by rw[e0,XY,Nat.sub_zero,e1];split<;>rfl⟩⟩
    refine⟨hz,?_,YG,YG⟩;rw[if_neg YG];have:(⟨B.b,a*B.k,ZB⟩:Addr).add (l.toNat*P.cellsOf e)=⟨B.b,(a+l.toNat)*B.k,ZB⟩:=by
     rw[hbr.k,J5,Xm];unfold Addr.add;split<;>simp_all
    simp[this]
   ·have Oj:l=0:=YG
    have hh0:hh=0:=YG;subst Oj hh0;have hba:b-a=0:=YG;rw[hba];have hb:=jL (P:=P) (isS:=ZC) (len:=0) (cap:=c) (l:=0) (h:=0) (GH:=GH) (GF:=GF) YP (by rcases b2 with⟨a,b,_⟩ |b;exact .inl ⟨a,YG⟩;exact .inr b) YG YG YG (WG _)
    refine⟨_,_,hK,λw'=>vv hu lS hs (hb w'),.ss _ _ _ _ (mn hk hm) rfl λB' lB=>?_⟩
    rw[hB]at lB;cases lB;exact⟨⟨_,_,by congr 1;simp,YG,by simp;omega,λSS=>by simp at SS⟩,λOj hz=>by
     obtain⟨rfl,rfl⟩:=hx1 (by simpa using Oj) hz
     exact⟨_,by simp only[Int.toNat_zero,XY,Nat.sub_zero];split<;>rfl⟩⟩
  ·exact h.elim
 ·rename_i e hu
  split at h
  ·rename_i l hh e1 e2
   obtain⟨a1,a2,a3,gD,hK⟩:=h;have b1:=uq e1 h1 h1n;have b2:=uq e2 h2 h2n;obtain⟨i,lS,hs⟩:=kb gD;obtain⟨rfl,_⟩:=hx.cF;have Oj:l=0:=YG;have hh0:hh=0:=YG;subst Oj hh0;have hb:=jL (P:=P) (isS:=ZC) (len:=0) (cap:=0) (l:=0) (h:=0) (GH:=GH) (GF:=GF) YP YS YG YG YG (WG _);exact⟨_,_,hK,λw'=>vv hu lS hs (hb w'),.c (.nil _ _)⟩
  ·exact h.elim
 ·exact h.elim
def Kw(m:Mem)(x:PV)(K:PV->Prop):Prop:=
 match x with
 |.be l i o=>live m l λ_=>K (.be l i o)
 |.rp cs=>K (.rp cs)
 |_=>False
def lp(P:Program)(m:Mem)(S:TypeId)(x:PV)(f:Nat)(K:PV->Prop):Prop:=
 match P.underlying S with
 |some (.struct fs)=>match fs[f]? with
  |some fd=>0<P.cellsOf fd.type/\match x with
   |.be l i o=>live m l λ_=>K (.be l i (o+fd.offset))
   |.rp cs=>K (.rp (cs.drop fd.offset))
   |_=>False
  |none=>False
 |_=>False
theorem ES(hk:Ok w0 O E w m){S:TypeId}{p:PV}{f:Nat}(hx:cN w E p x){K:PV->Prop}(h:lp P m S p f K):
 ∃r v,K r/\(∀w',(Instr.fieldAt S x f).run P w'=.ok v w')/\cN w E r v:=by
 unfold lp at h
 split at h
 ·rename_i fs hu
  split at h
  ·rename_i fd hf
   obtain⟨gD,h⟩:=h;obtain⟨i,hi,hs⟩:=kb gD;have dX:¬i.size=0:=YG;have run:∀b o w',(Instr.fieldAt S (.pointer (ZA ⟨b,o,ZB⟩)) f).run P w'=.ok (.pointer (ZA ⟨b,o+fd.offset,ZB⟩)) w':=by
    intro b o w';have ea:(⟨b,o,ZB⟩:Addr).add fd.offset=⟨b,o+fd.offset,ZB⟩:=by unfold Addr.add;split<;>simp_all
    simp[Instr.fieldAt,run_underlying hu,hf,Instr.sureAddr,fieldPlace,run_sizeOf hi,dX,ea]
   split at h
   ·rename_i l i' o
    obtain⟨mb,hm,hK⟩:=iE h;obtain⟨B,hB,hb,hz,rfl⟩:=hx.HJ hk hm;exact⟨_,_,hK,run _ _,.be _ _ _ _ (mn hk hm) rfl λB' lB=>by rw[hB]at lB;cases lB;exact⟨hz,by rw[Xv]⟩⟩
   ·rename_i cs
    cases hx.Uk with
    |rp _ b off u hS hc h1 hr=>
     refine⟨_,_,h,run _ _,.c (.rp _ b (off+fd.offset) (λj=>u (fd.offset+j)) hS (λj p hj=>?_) (λj p hj=>?_) λj p hj=>?_)⟩
     ·rw[WK]at hj;rw[Xv];exact hc _ p hj
     ·rw[WK]at hj;exact h1 _ p hj
     ·rw[WK]at hj;exact hr _ p hj
   ·exact h.elim
  ·exact h.elim
 ·exact h.elim
def zO(P:Program)(S:TypeId)(x:PV)(f:Nat)(K:PV->Prop):Prop:=
 match P.underlying S with
 |some (.struct fs)=>match fs[f]?,x with
  |some fd,.ag cs=>va P fd.type (ZA (cs.drop fd.offset)) K
  |_,_=>False
 |_=>False
theorem NF{S:TypeId}{p:PV}{f:Nat}(hx:cN w E p x){K:PV->Prop}(h:zO P S p f K):
 ∃r v,K r/\(∀w',(Instr.field S x f).run P w'=.ok v w')/\cN w E r v:=by
 unfold zO at h
 split at h
 ·rename_i fs hu
  split at h
  ·rename_i fd cs hf
   obtain⟨vs,rfl,hl,h1,hr⟩:=hx.pb;obtain⟨r,v,hK,kn,xl⟩:=TH h hl h1 hr;exact⟨r,v,hK,λw'=>by simp[Instr.field,run_underlying hu,hf,asAgg,kn],xl⟩
  ·exact h.elim
 ·exact h.elim
def cI(P:Program)(m:Mem)(T:TypeId)(x i:PV)(K:PV->Prop):Prop:=
 match P.underlying T,i with
 |some (.slice e),.v (.int _ n)=>match x with
  |.sl es=>0<=n/\n<es.length/\0<P.cellsOf e/\(es.getD n.toNat []).length=P.cellsOf e/\K (.rp (es.getD n.toNat []))
  |.ms l=>live m l λmb=>0<=n/\n<mb.es.length/\mb.k=P.cellsOf e/\K (.be l n.toNat 0)
  |.ss l a b=>live m l λmb=>0<=n/\n<(b-a:Nat)/\mb.k=P.cellsOf e/\K (.be l (a+n.toNat) 0)
  |_=>False
 |_,_=>False
theorem EU(hk:Ok w0 O E w m){p q:PV}(hx:cN w E p x)(hy:cN w E q y){K:PV->Prop}(h:cI P m T p q K):
 ∃r v,K r/\(∀w',(Instr.indexAt T x y).run P w'=.ok v w')/\cN w E r v:=by
 unfold cI at h
 split at h
 ·rename_i e kk n hu
  obtain⟨rfl,_⟩:=hy.cF
  split at h
  ·rename_i es
   obtain⟨a1,a2,gD,hlen,hK⟩:=h;obtain⟨i,hi,hs⟩:=kb gD;have hn:n.toNat<es.length:=YG;have hg:es.getD n.toNat []=es[n.toNat]:=by simp[W8,VF hn]
   have Ev:es[n.toNat]?=ZA (es.getD n.toNat []):=by rw[hg];exact VF hn
   cases hx.xp with
   |nil A c=>simp at hn
   |sl _ b off k c u hS hkp xt hm zq hc h1 hr=>
    have hek:k=P.cellsOf e:=(zq _ _ Ev).symm.trans hlen;have ea:(⟨b,off,ZB⟩:Addr).add (n.toNat*P.cellsOf e)=⟨b,off+n.toNat*k,ZB⟩:=by rw[hek];unfold Addr.add;split<;>simp_all
    refine⟨_,.pointer (ZA ⟨b,off+n.toNat*k,ZB⟩),hK,λw'=>?_,.c (.rp _ b (off+n.toNat*k) (λj=>u n.toNat j) hS (λj p hj=>hc _ _ j p Ev hj) (λj p hj=>h1 _ _ j p Ev hj) λj p hj=>hr _ _ j p Ev hj)⟩
    simp[Instr.indexAt,asIntOf,run_underlying hu,a1,a2,run_sizeOf hi,hs,ea]
  ·rename_i l
   obtain⟨mb,hm,a1,a2,J5,hK⟩:=iE h;obtain⟨B,hB,hb,rfl⟩:=hx.ln hk hm;have hz:=hb.Zjr YG;have gD:0<P.cellsOf e:=by rw[<-J5,<-hb.k];exact hb.pos
   obtain⟨i,hi,hs⟩:=kb gD;have ea:(⟨B.b,0,ZB⟩:Addr).add (n.toNat*P.cellsOf e)=⟨B.b,n.toNat*B.k,ZB⟩:=by rw[hb.k,J5];unfold Addr.add;split<;>simp_all
   refine⟨_,.pointer (ZA ⟨B.b,n.toNat*B.k,ZB⟩),hK,λw'=>?_,.be _ _ _ _ (mn hk hm) rfl λB' lB=>by rw[hB]at lB;cases lB;exact⟨hz,rfl⟩⟩
   have a2':n<(B.n:Int):=by rw[hb.n];exact a2
   simp[cL.sv,hz,Instr.indexAt,asIntOf,run_underlying hu,a1,a2',run_sizeOf hi,hs,ea]
  ·rename_i l a b
   obtain⟨mb,hm,a1,a2,J5,hK⟩:=iE h;obtain⟨B,hB,hb,A,c,rfl,IJ,hbB,hA⟩:=hx.EZ hk hm;obtain⟨hz,rfl,_,_⟩:=hA YG;have gD:0<P.cellsOf e:=by rw[<-J5,<-hb.k];exact hb.pos
   obtain⟨i,hi,hs⟩:=kb gD;have ea:(⟨B.b,a*B.k,ZB⟩:Addr).add (n.toNat*P.cellsOf e)=⟨B.b,(a+n.toNat)*B.k,ZB⟩:=by rw[hb.k,J5,Xm];unfold Addr.add;split<;>simp_all
   refine⟨_,.pointer (ZA ⟨B.b,(a+n.toNat)*B.k,ZB⟩),hK,λw'=>?_,.be _ _ _ _ (mn hk hm) rfl λB' lB=>by rw[hB]at lB;cases lB;exact⟨hz,rfl⟩⟩
   simp[Instr.indexAt,asIntOf,run_underlying hu,a1,a2,run_sizeOf hi,hs,ea]
  ·exact h.elim
 ·exact h.elim
def H7(s:ByteArray)(i:Nat):Int:=((s[i]?).map (·.toNat)).getD 0
def vX(P:Program)(T:TypeId)(x i:PV)(K:PV->Prop):Prop:=
 match P.underlying T,x,i with
 |some .string,.v (.string s),.v (.int _ n)=>0<=n/\n<s.size/\K (.v (.int .u8 (H7 s n.toNat)))
 |_,_,_=>False
theorem NG{p q:PV}(hx:cN w E p x)(hy:cN w E q y){K:PV->Prop}(h:vX P T p q K):
 ∃r v,K r/\(∀w',(Instr.index T x y).run P w'=.ok v w')/\cN w E r v:=by
 unfold vX at h
 split at h
 ·rename_i s kk n hu
  obtain⟨rfl,_⟩:=hx.cF;obtain⟨rfl,_⟩:=hy.cF;obtain⟨a1,a2,hK⟩:=h;have hn:n.toNat<s.size:=YG;refine⟨_,.int .u8 (H7 s n.toNat),hK,λw'=>?_,.c (.v _ rfl)⟩
  simp[Instr.index,asIntOf,run_underlying hu,a1,H7,hn]
 ·exact h.elim
def QF(i:Nat)(x:PV)(K:PV->Prop):Prop:=
 match x with
 |.tu vs=>match vs[i]? with
  |some p=>K p
  |none=>False
 |_=>False
theorem TE{p:PV}(hx:cN w E p x){K:PV->Prop}(h:QF i p K):∃r v,K r/\(∀w',(Instr.extract x i).run P w'=.ok v w')/\cN w E r v:=by
 unfold QF at h
 split at h
 ·rename_i vs
  split at h
  ·rename_i q hq
   obtain⟨us,rfl,hl,hr⟩:=hx.Ck;have hi:i<us.size:=by rw[hl];exact(VH.1 hq).1
   exact⟨q,us[i],h,λw'=>by simp[Instr.extract,VU hi],hr i q _ hq (VU hi)⟩
  ·exact h.elim
 ·exact h.elim
def A8(P:Program)(m:Mem)(T:TypeId)(x:PV)(K:PV->Prop):Prop:=
 match P.underlying T,x with
 |some .string,.v (.string s)=>K (.v (ZF ZG s.size))
 |some (.slice _),.v (.slice ZB n _)=>K (.v (ZF ZG n))
 |some (.slice _),.sl es=>K (.v (ZF ZG es.length))
 |some (.slice _),.ms l=>live m l λmb=>K (.v (ZF ZG mb.es.length))
 |some (.slice _),.ss l a b=>live m l λ_=>K (.v (ZF ZG (b-a:Nat)))
 |_,_=>False
theorem TG(hk:Ok w0 O E w m){p:PV}(hx:cN w E p x){K:PV->Prop}(h:A8 P m T p K):∃r v,K r/\(∀w',(Builtin.len_ #[T] ty #[x]).run P w'=.ok v w')/\cN w E r v:=by
 unfold A8 at h
 split at h
 ·rename_i s hu
  obtain⟨rfl,_⟩:=hx.cF;exact⟨_,_,h,λw'=>by simp[Builtin.len_,run_underlying hu,goInt],.c (.v _ rfl)⟩
 ·rename_i e n c hu
  obtain⟨rfl,_⟩:=hx.cF;exact⟨_,_,h,λw'=>by simp[Builtin.len_,run_underlying hu,goInt],.c (.v _ rfl)⟩
 ·rename_i e es hu
  cases hx.xp with
  |nil A c=>exact⟨_,_,h,λw'=>by simp[Builtin.len_,run_underlying hu,goInt],.c (.v _ rfl)⟩
  |sl=>exact⟨_,_,h,λw'=>by simp[Builtin.len_,run_underlying hu,goInt],.c (.v _ rfl)⟩
 ·rename_i e l hu
  obtain⟨mb,hm,hK⟩:=iE h;obtain⟨B,hB,hb,rfl⟩:=hx.ln hk hm;refine⟨_,_,hK,λw'=>?_,.c (.v _ rfl)⟩
  cases hz:B.z with
  |true=>simp[cL.sv,hz,Builtin.len_,run_underlying hu,goInt,hb.nil hz]
  |false=>simp[cL.sv,hz,Builtin.len_,run_underlying hu,goInt,hb.n]
 ·rename_i e l a b hu
  obtain⟨mb,hm,hK⟩:=iE h;obtain⟨B,hB,hb,A,c,rfl,_,_,_⟩:=hx.EZ hk hm;exact⟨_,_,hK,λw'=>by simp[Builtin.len_,run_underlying hu,goInt],.c (.v _ rfl)⟩
 ·exact h.elim
end
def rf(w:World)(E:Env)(cs:List PV)(a:Array Value):Prop:=
 a.size=cs.length/\∀(j:Nat) (p:PV),cs[j]?=ZA p->∃x,a[j]?=ZA x/\x.oneCell'=ZC/\cN w E p x
def Ba(cs:List PV)(off:Nat)(qs:List PV):List PV:=cs.take off++qs++cs.drop (off+qs.length)
def Bp(place:Nat->Option (Nat×Nat)):List PV->List (Nat×PV)->Option (List PV)
 |cs,[]=>ZA cs
 |cs,(i,p)::rest=>match place i,pc p with
  |some (off,size),ZA qs=>if qs.length=size/\off+qs.length<=cs.length then Bp place (Ba cs off qs) rest else ZB
  |_,_=>ZB
section
variable {w:World} {O:Nat->Prop} {E:Env} {w0:World} {m:Mem} {P:Program}
theorem zV{cs qs:List PV}(h:off+qs.length<=cs.length):(Ba cs off qs).length=cs.length:=by
 simp[Ba];omega
theorem JH{cs qs:List PV}(h:off+qs.length<=cs.length)(j:Nat):(Ba cs off qs)[j]?=if off<=j/\j<off+qs.length then qs[j-off]? else cs[j]?:=by
 have hl:(cs.take off).length=off:=by grind
 unfold Ba
 grind
theorem ZbE(qs:List Value):∀(i off:Nat) (a:Array Value),((qs.zipIdx i).foldl (λcs (c,j)=>cs.setIfInBounds (off+j) c) a).size=a.size/\
 ∀j,((qs.zipIdx i).foldl (λcs (c,j)=>cs.setIfInBounds (off+j) c) a)[j]?=if off+i<=j/\j<off+i+qs.length/\j<a.size then qs[j-(off+i)]? else a[j]?:=by
 induction qs with
 |nil=>intro i off a;exact⟨rfl,λj=>by simp;omega⟩
 |cons q qs ih=>
  intro i off a;simp;obtain⟨h1,h2⟩:=ih (i+1) off (a.setIfInBounds (off+i) q)
  grind
theorem Iy{place:Nat->Option (Nat×Nat)}:∀(ps:List (Nat×PV)) (vs:List (Nat×Value)) (cs sm:List PV) (a:Array Value),rf w E cs a->Bp place cs ps=ZA sm->
 ps.length=vs.length->(∀(j i:Nat) (p:PV),ps[j]?=ZA (i,p)->∃x,vs[j]?=ZA (i,x)/\cN w E p x)->∃a',Instr.fill place a vs=ZA a'/\rf w E sm a'
 | [],[],cs,sm,a,h,hf,_,_=>by
  simp only[Bp,VR]at hf
  subst hf;exact⟨a,rfl,h⟩
 | [],_::_,_,_,_,_,_,hl,_=>by simp at hl
 |_::_,[],_,_,_,_,_,hl,_=>by simp at hl
 |(i,p)::ps,(i',x)::vs,cs,sm,a,h,hf,hl,hr=>by
  obtain⟨x',vQ,xl⟩:=hr 0 i p rfl;simp only[List.getElem?_cons_zero,VR,Prod.mk.injEq]at vQ
  obtain⟨rfl,rfl⟩:=vQ;simp only[Bp]at hf
  split at hf
  ·rename_i off size qs hp hq
   simp only[W3]at hf
   obtain⟨⟨h1,h2⟩,hf⟩:=hf;obtain⟨c1,c2⟩:=NM xl hq;have Zm4:¬((x.cells.size≠size ||off+x.cells.size > a.size)=ZC):=by
    rw[c1,h1,h.1];simp;omega
   obtain⟨f1,f2⟩:=ZbE x.cells.toList 0 off a;have e:x.cells.zipIdx.foldl (λcs (x:Value×Nat)=>cs.setIfInBounds (off+x.2) x.1) a=(x.cells.toList.zipIdx 0).foldl (λcs (c,j)=>cs.setIfInBounds (off+j) c) a:=by
    rw[<-Array.foldl_toList,Array.toList_zipIdx]
   have ZkM:rf w E (Ba cs off qs) ((x.cells.toList.zipIdx 0).foldl (λcs (c,j)=>cs.setIfInBounds (off+j) c) a):=by
    refine⟨by rw[f1,h.1,zV h2],λj q hj=>?_⟩
    rw[JH h2]at hj
    rw[f2 j,Nat.add_zero]
    by_cases c:off<=j/\j<off+qs.length
    ·grind
    ·rw[if_neg c]at hj
     obtain⟨y,y1,y2,y3⟩:=h.2 j q hj
     grind
   obtain⟨a',e1,e2⟩:=Iy ps vs _ sm _ ZkM hf Zc λj i p hj=>by
    obtain⟨x,hx,hxr⟩:=hr (j+1) i p Zs
    grind
   refine⟨a',?_,e2⟩;simp only[Instr.fill,hp,Zm4,if_false,Bool.false_eq_true];rw[<-e1,<-e]
  ·cases hf
def zeroOf(P:Program)(t:TypeId):Option Value:=(P.info? t).bind (·.zero)
def pz(P:Program)(t:TypeId):Option (List PV):=(zeroOf P t).bind λz=>pc (Ziw z)
theorem EV{cs:List PV}(h:pz P t=ZA cs):∃i z,P.info? t=ZA i/\i.zero=ZA z/\rf w E cs z.cells:=by
 unfold pz zeroOf at h
 cases hi:P.info? t with
 |none=>simp[hi]at h
 |some i=>
  cases hz:i.zero with
  |none=>simp[hi,hz]at h
  |some z=>
   simp[hi,hz]at h
   exact⟨i,z,rfl,hz,NM (QK z) h⟩
theorem JF{i:TypeInfo}{z:Value}(hi:P.info? t=ZA i)(hz:i.zero=ZA z)(w':World):(zeroValue t).run P w'=.ok z w':=by
 simp[zeroValue,typeInfo,hi,hz]
def zN(P:Program)(T:TypeId)(ps:List (Nat×PV))(K:PV->Prop):Prop:=
 match P.underlying T with
 |some (.struct fs)=>(∀fd∈fs.toList,0<P.cellsOf fd.type)/\match pz P T with
  |some zc=>match Bp (λi=>(fs[i]?).map λfd=>(fd.offset,P.cellsOf fd.type)) zc ps with
   |some cs=>K (.ag cs)
   |none=>False
  |none=>False
 |_=>False
theorem rf.ag{cs:List PV}{a:Array Value}(h:rf w E cs a):cN w E (.ag cs) (.agg a):=by
 refine .ag cs a h.1 (λj x hx=>?_) λj p x hp hx=>?_
 ·have hj:j<cs.length:=by rw[<-h.1];exact(VQ.1 hx).1
  obtain⟨y,h1,h2,_⟩:=h.2 j _ (VF hj)
  grind
 ·obtain⟨y,h1,_,h3⟩:=h.2 j p hp
  grind
theorem run_places{fs:Array Field}(h:∀fd∈fs.toList,0<P.cellsOf fd.type)(w':World):
 (fs.mapM fun(f:Field)=>(do pure (f.offset,<-sizeOf f.type):Sem (Nat×Nat))).run P w'=.ok (fs.map λfd=>(fd.offset,P.cellsOf fd.type)) w':=by
 rw[Array.mapM_eq_mapM_toList];have key:∀l:List Field,(∀fd∈l,0<P.cellsOf fd.type)->(l.mapM fun(f:Field)=>(do pure (f.offset,<-sizeOf f.type):Sem (Nat×Nat))).run P w'=.ok (l.map λfd=>(fd.offset,P.cellsOf fd.type)) w':=by
  intro l
  induction l with
  |nil=>intro _;simp
  |cons f l ih=>
   intro hl;obtain⟨i,hi,hs⟩:=kb (hl f YJ);have:=ih λfd hfd=>hl fd YN
   simp only[List.mapM_cons,Sem.run_bind,run_sizeOf hi,Result.andThen_ok,Sem.run_pure,this,hs,List.map_cons]
 have k:=key fs.toList h;rw[Sem.run_map];refine(congrArg (λr=>Result.andThen r fun(a:List (Nat×Nat)) w'=>Result.ok a.toArray w') k).trans ?_
 show Result.ok _ _=_
 congr 1
 grind
theorem NB{ps:List (Nat×PV)}{vs:Array (Nat×Value)}(hl:ps.length=vs.size)(hr:∀(j i:Nat) (p:PV),ps[j]?=ZA (i,p)->∃x,vs[j]?=ZA (i,x)/\cN w E p x){K:PV->Prop}(h:zN P T ps K):
 ∃r v,K r/\(∀w',(Instr.build T vs).run P w'=.ok v w')/\cN w E r v:=by
 unfold zN at h
 split at h
 ·rename_i fs hu
  obtain⟨gD,h⟩:=h
  split at h
  ·rename_i zc hz
   split at h
   ·rename_i cs hf
    obtain⟨i,z,hi,vF,hc⟩:=EV (w:=w) (E:=E) hz;obtain⟨a',e1,e2⟩:=Iy ps vs.toList zc cs z.cells hc hf YG λj i p hj=>by simpa using hr j i p hj
    refine⟨_,.agg a',h,λw'=>?_,e2.ag⟩
    simp only[Instr.build,Sem.run_bind,JF hi vF,run_underlying hu,Result.andThen_ok,run_places gD w'];simp[e1]
   ·exact h.elim
  ·exact h.elim
 ·exact h.elim
end
section
variable {w:World} {O:Nat->Prop} {E:Env} {w0:World} {m:Mem} {P:Program}
def yV(P:Program)(w0:World)(O:Nat->Prop)(E:Env)(w:World)(ν:Nat)(s:Sem Value)(p:PV)(m':Mem):Prop:=
 ∃x w' E',s.run P w=.ok x w'/\Ok w0 O E' w' m'/\Ext w w' E E'/\cN w' E' p x/\∀l,E'.used l->E.used l\/l=ν
theorem Mi{cs:List PV}{a:Array Value}(h:rf w E cs a)(T:TK):∀(i:Nat) (ds:List PV) (j:Nat) (p:PV),(MB.mk T cs.length [cs]).es[i]?=ZA ds->ds[j]?=ZA p->
 ∃x,a[i*cs.length+j]?=ZA x/\x.oneCell'=ZC/\cN w E p x:=by
 intro i ds j p hi hj
 cases i with
 |zero=>
  obtain rfl:cs=ds:=by grind
  simpa using h.2 j p hj
 |succ i=>simp at hi
theorem Er(hk:Ok w0 O E w m)(Av:¬E.used ν){mb:MB}{a:Array Value}(hkd:mb.T.kd=ZB)(gD:0<mb.k)(hn:mb.es.length<=c)(hc:c<=maxLen)(zq:∀(i:Nat) (cs:List PV),mb.es[i]?=ZA cs->cs.length=mb.k)(hs:a.size=c*mb.k)
 (hr:∀(i:Nat) (cs:List PV) (j:Nat) (p:PV),mb.es[i]?=ZA cs->cs[j]?=ZA p->∃x,a[i*mb.k+j]?=ZA x/\x.oneCell'=ZC/\cN w E p x):
 ∃E',Ok w0 O E' (w.alloc (.cells a mb.T.t (0,0))) (py m ν mb)/\Ext w (w.alloc (.cells a mb.T.t (0,0))) E E'/\
  cN (w.alloc (.cells a mb.T.t (0,0))) E' (.ms ν) (.slice (ZA ⟨w.heap.size,0,ZB⟩) mb.es.length c)/\
  cN (w.alloc (.cells a mb.T.t (0,0))) E' (.be ν 0 0) (.pointer (ZA ⟨w.heap.size,0,ZB⟩))/\∀l,E'.used l->E.used l\/l=ν:=by
 have uV:(w.alloc (.cells a mb.T.t (0,0))).heap.size=w.heap.size+1:=by simp
 obtain⟨h1,h2⟩:=hk.new (w':=w.alloc (.cells a mb.T.t (0,0))) Av mb ⟨w.heap.size,c,mb.es.length,mb.k,mb.T.t,ZD⟩ rfl rfl rfl YG (λb hb=>heap_alloc_old _ _ hb) (λ_=>⟨VJ _,by simp only;omega⟩)
  λhx=>⟨rfl,rfl,rfl,gD,hn,hc,zq,(λh=>by cases h),λ_=>⟨a,heap_alloc_new w _,hs,λi cs j p hi hj=>by
   obtain⟨x,x1,x2,x3⟩:=hr i cs j p hi hj;exact⟨x,x1,x2,x3.ext hx⟩⟩,λT hT=>by rw[hkd]at hT;cases hT⟩
 refine⟨_,h1,h2,.ms _ _ (.inl rfl) rfl λB hB=>?_,.be _ _ _ _ (.inl rfl) rfl λB hB=>?_,λl hl=>hl.symm⟩
 ·have e:B=⟨w.heap.size,c,mb.es.length,mb.k,mb.T.t,ZD⟩:=by simpa[Env.add,eq_comm]using hB
  subst e;rfl
 ·have e:B=⟨w.heap.size,c,mb.es.length,mb.k,mb.T.t,ZD⟩:=by simpa[Env.add,eq_comm]using hB
  subst e;simp
def EP(ν:Nat)(m:Mem)(T:TypeId)(cs:Option (List PV))(K:PV->Mem->Prop):Prop:=
 match cs with
 |some (c::cs)=>K (.be ν 0 0) (py m ν ⟨T,(c::cs).length,[c::cs]⟩)
 |_=>False
theorem Jn(hk:Ok w0 O E w m)(Av:¬E.used ν){cs:List PV}(hc:rf w E cs x.cells){K:PV->Mem->Prop}(h:EP ν m T (ZA cs) K):∃p m',K p m'/\yV P w0 O E w ν (do pure (.pointer (ZA (<-newVar T x)))) p m':=by
 unfold EP at h
 split at h
 ·rename_i c sm e
  obtain rfl:cs=c::sm:=by grind
  obtain⟨E',h1,h2,_,h4,h5⟩:=Er (mb:=⟨T,(c::sm).length,[c::sm]⟩) (c:=1) hk Av rfl YJ YJ Y6 (λi ds hi=>by
   cases i with
   |zero=>obtain rfl:(c::sm)=ds:=by grind
          rfl
   |succ i=>simp at hi) (by rw[hc.1];simp) (Mi hc T)
  exact⟨_,_,h,.pointer (ZA ⟨w.heap.size,0,ZB⟩),_,E',by simp[newVar,newRow],h1,h2,h4,h5⟩
 ·exact h.elim
theorem TD(hk:Ok w0 O E w m)(Av:¬E.used ν){p:PV}(hx:cN w E p x){K:PV->Mem->Prop}(h:EP ν m T (pc p) K):∃p m',K p m'/\yV P w0 O E w ν (Instr.box T x) p m':=by
 cases hp:pc p with
 |none=>rw[hp]at h;exact h.elim
 |some cs=>rw[hp]at h;exact Jn hk Av (NM hx hp) h
theorem Nz(hk:Ok w0 O E w m)(Av:¬E.used ν){K:PV->Mem->Prop}(h:EP ν m T (pz P T) K):∃p m',K p m'/\yV P w0 O E w ν (Instr.alloc T ZC (.tuple #[])) p m':=by
 cases hp:pz P T with
 |none=>rw[hp]at h;exact h.elim
 |some cs=>
  rw[hp]at h
  obtain⟨i,z,hi,hz,hc⟩:=EV (w:=w) (E:=E) hp;obtain⟨p,m',hK,x,w',E',kn,r⟩:=Jn (P:=P) hk Av hc h;refine⟨p,m',hK,x,w',E',?_,r⟩;simp[Instr.alloc,JF hi hz];exact kn
def BF(zc:List PV):Nat->List PV
 |0=>[]
 |n+1=>zc++BF zc n
def chunk(k:Nat):Nat->List PV->List (List PV)
 |0,_=>[]
 |n+1,cs=>cs.take k::chunk k n (cs.drop k)
theorem yK(zc:List PV)(n:Nat):(BF zc n).length=n*zc.length:=by
 induction n with
 |zero=>simp[BF]
 |succ n ih=>simp[BF,WX];omega
theorem Zc9{zc:List PV}{p:PV}(h:(BF zc n)[j]?=ZA p):zc[j % zc.length]?=ZA p:=by
 induction n generalizing j with
 |zero=>simp[BF]at h
 |succ n ih=>
  simp only[BF]at h
  rcases Wg j zc.length with hj|hj
  ·rw[Wi hj]at h
   rwa[Ye hj]
  ·rw[V9 hj]at h
   have:=ih h
   rwa[Nat.mod_eq_sub_mod hj]
theorem yk(k n:Nat)(cs:List PV):(chunk k n cs).length=n:=by
 induction n generalizing cs with
 |zero=>rfl
 |succ n ih=>simp[chunk,ih]
theorem KM{cs ds:List PV}(h:(chunk k n cs)[i]?=ZA ds):ds=(cs.drop (i*k)).take k:=by
 induction n generalizing cs i with
 |zero=>simp[chunk]at h
 |succ n ih=>
  cases i with
  |zero=>simpa[chunk,eq_comm]using h
  |succ i=>
   have:=ih (i:=i) (by simpa[chunk]using h)
   rw[this,List.drop_drop,WX,XF]
theorem Za3{cs:List PV}{a:Array Value}(hk:0<k)(h:rf w E cs a)(hl:cs.length=n*k):(∀(i:Nat) (ds:List PV),(chunk k n cs)[i]?=ZA ds->ds.length=k)/\
 ∀(i:Nat) (ds:List PV) (j:Nat) (p:PV),(chunk k n cs)[i]?=ZA ds->ds[j]?=ZA p->∃x,a[i*k+j]?=ZA x/\x.oneCell'=ZC/\cN w E p x:=by
 have bO:∀{i:Nat} {ds:List PV},(chunk k n cs)[i]?=ZA ds->i<n:=λhi=>by
  have:=(VH.1 hi).1
  rwa[yk]at this
 refine⟨λi ds hi=>?_,λi ds j p hi hj=>?_⟩
 ·have As:=bO hi
  rw[KM hi];have this:=V1 k As
  grind
 ·rw[KM hi,WT]at hj
  split at hj
  ·rw[WK]at hj
   exact h.2 _ p hj
  ·cases hj
def nJ(P:Program)(ν:Nat)(m:Mem)(T:TypeId)(n:Nat)(ps:List (Nat×PV))(K:PV->Mem->Prop):Prop:=
 match P.underlying T with
 |some (.slice e)=>match pz P e with
  |some zc=>0<P.cellsOf e/\zc.length=P.cellsOf e/\n*P.cellsOf e<=16777216/\match Bp (λi=>ZA (i*P.cellsOf e,P.cellsOf e)) (BF zc n) ps with
   |some cs=>K (.ms ν) (py m ν ⟨e,P.cellsOf e,chunk (P.cellsOf e) n cs⟩)
   |none=>False
  |none=>False
 |_=>False
theorem CP{place:Nat->Option (Nat×Nat)}:∀(ps:List (Nat×PV)) (cs sm:List PV),Bp place cs ps=ZA sm->sm.length=cs.length
 | [],cs,sm,h=>by simp only[Bp,VR]at h;rw[h]
 |(i,p)::ps,cs,sm,h=>by
  simp only[Bp]at h
  split at h
  ·simp at h
   rw[CP ps _ _ h.2,zV h.1.2]
  ·cases h
theorem DG(hk:Ok w0 O E w m)(Av:¬E.used ν){ps:List (Nat×PV)}{vs:Array (Nat×Value)}(hl:ps.length=vs.size)
 (hr:∀(j i:Nat) (p:PV),ps[j]?=ZA (i,p)->∃x,vs[j]?=ZA (i,x)/\cN w E p x) {K:PV->Mem->Prop} (h:nJ P ν m T n ps K):∃p m',K p m'/\yV P w0 O E w ν (Instr.buildSlice T n vs) p m':=by
 unfold nJ at h
 split at h
 ·rename_i e hu
  split at h
  ·rename_i zc hz
   obtain⟨gD,Au,MD,h⟩:=h
   split at h
   ·rename_i cs hf
    obtain⟨i,z,hi,vF,hc⟩:=EV (w:=w) (E:=E) hz;have Vl:i.size=P.cellsOf e:=by simp[Program.cellsOf,hi]
    have h0:rf w E (BF zc n) ((Yc (n*i.size)).map (z.cells[· % z.cells.size]!)):=by
     refine⟨by rw[yK,Au,Vl];simp,λj p hj=>?_⟩
     have MM:=(VH.1 hj).1;rw[yK,Au]at MM
     obtain⟨x,x1,x2,x3⟩:=hc.2 _ p (Zc9 hj);rw[<-hc.1]at x1
     grind
    obtain⟨a',e1,e2⟩:=Iy ps vs.toList _ cs _ h0 hf YG λj i p hj=>by simpa using hr j i p hj
    have xk:cs.length=n*P.cellsOf e:=by rw[CP _ _ _ hf,yK,Au]
    obtain⟨r1,r2⟩:=Za3 gD e2 xk;obtain⟨E',h1,h2,h3,_,h5⟩:=Er (mb:=⟨e,P.cellsOf e,chunk (P.cellsOf e) n cs⟩) (c:=n) hk Av rfl gD (by simp[yk]) (by
     unfold maxLen;have:n*1<=n*P.cellsOf e:=Nat.mul_le_mul_left n gD;omega) r1 (by rw[e2.1,xk]) r2
    simp only[yk]at h3
    refine⟨_,_,h,_,_,E',?_,h1,h2,h3,h5⟩;have e3:Instr.fill (λj=>ZA (j*i.size,i.size)) ((Yc (n*i.size)).map (z.cells[· % z.cells.size]!)) vs.toList=ZA a':=by rw[<-e1,Vl]
    have hnb:¬n*i.size > 2 ^ 24:=by rw[Vl];omega
    by_cases hn0:n*i.size=0
    ·have e4:(Yc (n*i.size)).map (z.cells[· % z.cells.size]!)=(Yc (n*i.size)).map ((#[]:Array Value)[· % (#[]:Array Value).size]!):=by
      grind
     rw[e4]at e3
     simp only[Instr.buildSlice,Sem.run_bind,run_underlying hu,Result.andThen_ok,run_sizeOf hi,hnb,if_false,Sem.run_ite,hn0,if_true,Sem.run_pure];rw[hn0]at e3
     simp only[e3];simp[newRow]
    ·simp only[Instr.buildSlice,Sem.run_bind,run_underlying hu,Result.andThen_ok,run_sizeOf hi,hnb,if_false,Sem.run_ite,hn0,Sem.run_pure,JF hi vF,e3]
     simp[newRow]
   ·exact h.elim
  ·exact h.elim
 ·exact h.elim
end
section
variable {w:World} {O:Nat->Prop} {E:Env} {w0:World} {m:Mem} {P:Program}
def zP(P:Program)(ν:Nat)(m:Mem)(T:TypeId)(l c:PV)(K:PV->Mem->Prop):Prop:=
 match P.underlying T,l,c with
 |some (.slice e),.v (ZF ZG n),.v (ZF ZG n')=>match pz P e with
  |some zc=>n=n'/\0<=n/\0<P.cellsOf e/\zc.length=P.cellsOf e/\n<=1099511627776/\P.bytesOf e*n<=140737488355328/\K (.ms ν) (py m ν ⟨e,P.cellsOf e,VW n.toNat zc⟩)
  |none=>False
 |_,_,_=>False
theorem QG(hk:Ok w0 O E w m)(Av:¬E.used ν){p q:PV}(hx:cN w E p x)(hy:cN w E q y){K:PV->Mem->Prop}(h:zP P ν m T p q K):∃p m',K p m'/\yV P w0 O E w ν (Instr.makeSlice T x y) p m':=by
 unfold zP at h
 split at h
 ·rename_i e n n' hu
  obtain⟨rfl,_⟩:=hx.cF;obtain⟨rfl,_⟩:=hy.cF
  split at h
  ·rename_i zc hz
   obtain⟨rfl,h0,gD,Au,MD,rU,hK⟩:=h;obtain⟨i,z,hi,vF,hc⟩:=EV (w:=w) (E:=E) hz;have Vl:i.size=P.cellsOf e:=by simp[Program.cellsOf,hi]
   have hib:i.bytes=P.bytesOf e:=by simp[Program.bytesOf,hi]
   obtain⟨k,rfl⟩:∃k:Nat,n=(k:Int):=⟨n.toNat,YG⟩;have hkb:i.bytes*k<=281474976710656:=by
    rw[hib];have:((P.bytesOf e*k:Nat):Int)<=140737488355328:=by rw[Int.natCast_mul];exact rU
    omega
   have kn:=run_mk T e i z hu hi vF k hkb YG w;have IN:∀(i:Nat) (cs:List PV),(VW k zc)[i]?=ZA cs->i<k/\cs=zc:=by
    intro i cs hi;have bO:=(VH.1 hi).1;rw[XK]at bO
    rw[List.getElem?_replicate,if_pos bO]at hi
    exact⟨bO,by simpa[eq_comm]using hi⟩
   obtain⟨E',h1,h2,h3,_,h5⟩:=Er (mb:=⟨e,P.cellsOf e,VW k zc⟩) (c:=k) (a:=madeCells z.cells (k*i.size)) hk Av rfl gD YJ Y6
    (λi cs hi=>by rw[(IN i cs hi).2];exact Au) (by rw[Vl];simp[madeCells]) (λi' cs j p lS hj=>by
     obtain⟨bO,rfl⟩:=IN i' cs lS;obtain⟨x,x1,x2,x3⟩:=hc.2 j p hj;refine⟨x,?_,x2,x3⟩;have MM:j<P.cellsOf e:=by rw[<-Au];exact(VH.1 hj).1
     have hzs:z.cells.size=P.cellsOf e:=by rw[hc.1,Au]
     have As:i'*P.cellsOf e+j<k*i.size:=by
      rw[Vl];have:(i'+1)*P.cellsOf e<=k*P.cellsOf e:=V1 _ bO;rw[WX]at this
      omega
     have ZkK:(i'*P.cellsOf e+j) % z.cells.size=j:=by rw[hzs,XF,Yr,Ye MM]
     simp only[madeCells];rw[Array.getElem?_map,Array.getElem?_range,if_pos As];simp only[Wo,VR,ZkK];have SS:=(VQ.1 x1).1;rw[getElem!_pos z.cells _ SS];exact(VQ.1 x1).2)
   simp only[XK]at h3
   have hK':K (.ms ν) (py m ν ⟨e,P.cellsOf e,VW k zc⟩):=by simpa using hK
   exact⟨_,_,hK',_,_,E',kn,h1,h2,h3,h5⟩
  ·exact h.elim
 ·exact h.elim
def zQ(P:Program)(m:Mem)(T:TypeId)(a x:PV)(K:PV->Mem->Prop):Prop:=
 match a,pc x with
 |.be l i o,ZA qs=>live m l λmb=>match mb.es[i]? with
  |some cs=>0<qs.length/\qs.length=P.cellsOf T/\o+qs.length<=cs.length/\K .ud (m.set l (ZA ⟨mb.T.st qs,mb.k,mb.es.set i (Ba cs o qs)⟩))
  |none=>False
 |_,_=>False
theorem Zau(l vs:List Value)(O:Nat)(h:O+vs.length<=l.length)(j:Nat):(l.take O++vs++l.drop (O+vs.length))[j]?=if O<=j/\j<O+vs.length then vs[j-O]? else l[j]?:=by
 have hl:(l.take O).length=O:=by rw[V3];omega
 rw[List.append_assoc]
 rcases Wg j O with h1|h1
 ·rw[Wi YG,W0 h1,if_neg YG]
 ·rw[V9 YG,hl]
  rcases Wg j (O+vs.length)with h2|h2
  ·rw[Wi YG,if_pos ⟨h1,h2⟩]
  ·rw[V9 YG,WK,if_neg YG]
   congr 1;omega
theorem NJ(hk:Ok w0 O E w m){p q:PV}(hx:cN w E p x)(hy:cN w E q y){K:PV->Mem->Prop}(h:zQ P m T p q K):
 ∃m',K .ud m'/\∃w',(Instr.storeAt T x y).run P w=.ok () w'/\Ok w0 O E w' m'/\Ext w w' E E:=by
 unfold zQ at h
 split at h
 ·rename_i l i o qs hq
  obtain⟨mb,hm,h⟩:=iE h
  split at h
  ·rename_i cs gl
   obtain⟨gD,hT,hle,hK⟩:=h;obtain⟨B,hB,hb,hz,rfl⟩:=hx.HJ hk hm;obtain⟨c1,c2⟩:=NM hy hq;obtain⟨ti,hti,hts⟩:=kb (P:=P) (t:=T) YG;obtain⟨cells,m1,m2,m3⟩:=hb.mem hz;have xk:=hb.es i cs gl;have As:i<B.n:=by rw[hb.n];exact(VH.1 gl).1
   have Zpn:i*B.k+B.k<=B.c*B.k:=by
    have:(i+1)*B.k<=B.c*B.k:=V1 _ (Wb As hb.nc)
    rwa[WX]at this
   have BN:∀v∈y.cells.toList,v.oneCell'=true:=by
    intro v hv;obtain⟨j,hj⟩:=Xf hv;have MM:j<qs.length:=by
     have:=(VH.1 hj).1;rw[Wn,c1]at this
     exact this
    obtain⟨z,z1,z2,_⟩:=c2 j _ (VF MM);rw[Wx,z1]at hj
    cases hj
    exact z2
   have xu:=run_storeCells_at P B.b (i*B.k+o) B.T y.cells.toList 0 cells w m1 (by rw[Wn,c1,m2];omega) BN
   refine⟨_,hK,w.setRow B.b (cells.toList.take (i*B.k+o+0)++y.cells.toList++cells.toList.drop (i*B.k+o+0+y.cells.toList.length)).toArray,?_,?_⟩
   ·have uV:¬y.cells.size≠ti.size:=by rw[c1,hT,hts];simp
    simp only[Instr.storeAt,Instr.sureAddr,storeVar,Sem.run_bind,Sem.run_pure,Result.andThen_ok,run_sizeOf hti,uV,if_false];exact xu
   ·refine hk.put hB hz _ rfl rfl rfl (by simp[World.setRow]) (λb dX=>setRow_other w B.b b _ dX) λvQ=>?_
    ·have AY:(Ba cs o qs).length=cs.length:=zV hle
     refine⟨hb.k,by rw[hb.n];simp,by rw[hb.T];exact(TK.ZnX _ _).symm,hb.pos,hb.nc,hb.cm,λi' sm lS=>?_,λh=>Zt,λ_=>⟨_,setRow_heap w B.b cells _ B.T _ m1,?_,λi' sm j pp lS hj=>?_⟩,λT1 hT1 _ i' sm j es x lS hj dX hc=>?_⟩
     ·simp only at lS
      by_cases e:i'=i
      ·subst e
       rw[Wa (VH.1 gl).1]at lS
       simp only[VR]at lS
       rw[<-lS,AY];exact xk
      ·rw[Wk (Ne.symm e)]at lS
       exact hb.es i' sm lS
     ·have h1:y.cells.toList.length=qs.length:=by rw[Wn,c1]
      simp only[List.size_toArray,VV,V3,WH,Wn,m2];rw[<-c1]at hle
      omega
     ·simp only at lS
      have h1:y.cells.toList.length=qs.length:=by rw[Wn,c1]
      have hsg:=λt=>Zau cells.toList y.cells.toList (i*B.k+o+0) (by simp only[Wn,c1,m2];omega) t
      by_cases e:i'=i
      ·subst e
       rw[Wa (VH.1 gl).1]at lS
       simp only[VR]at lS
       subst lS;rw[JH hle]at hj
       by_cases c:o<=j/\j<o+qs.length
       ·rw[if_pos c]at hj
        obtain⟨z,z1,z2,z3⟩:=c2 _ pp hj;refine⟨z,?_,z2,z3.ext vQ⟩;rw[Xq,hsg,if_pos (by rw[h1];omega)]
        rw[Wx,<-z1]
        congr 1;omega
       ·rw[if_neg c]at hj
        obtain⟨z,z1,z2,z3⟩:=m3 i' cs j pp gl hj;refine⟨z,?_,z2,z3.ext vQ⟩;rw[Xq,hsg,if_neg (by rw[h1];omega),Wx]
        exact z1
      ·rw[Wk (Ne.symm e)]at lS
       obtain⟨z,z1,z2,z3⟩:=m3 i' sm j pp lS hj;refine⟨z,?_,z2,z3.ext vQ⟩;have MM:j<B.k:=by rw[<-hb.es i' sm lS];exact(VH.1 hj).1
       rw[Xq,hsg,if_neg ?_,Wx]
       ·exact z1
       ·rw[h1]
        intro⟨g1,g2⟩
        rcases Nat.lt_or_gt_of_ne e with bO|GS
        ·have:(i'+1)*B.k<=i*B.k:=V1 _ bO
         rw[WX]at this
         omega
        ·have:(i+1)*B.k<=i'*B.k:=V1 _ GS
         rw[WX]at this
         omega
     ·simp only at lS
      obtain⟨hk1,hns⟩:=TK.Zgt hT1;have h1:y.cells.toList.length=qs.length:=by rw[Wn,c1]
      have hsg:=λt=>Zau cells.toList y.cells.toList (i*B.k+o+0) (by simp only[Wn,c1,m2];omega) t
      rw[cell_of_row _ B.b _ _ B.T (0,0) (setRow_heap w B.b cells _ B.T _ m1),Xq,hsg]at hc
      have Cp:∀cs1,mb.es[i']?=ZA cs1->cs1[j]?=ZA (.sl es)->¬(i*B.k+o+0<=i'*B.k+j/\i'*B.k+j<i*B.k+o+0+y.cells.toList.length)->Ho (w.setRow B.b (cells.toList.take (i*B.k+o+0)++y.cells.toList++cells.toList.drop (i*B.k+o+0+y.cells.toList.length)).toArray) E T1 ((mb.T.st qs).t,i',j) es x:=by
       intro cs1 g1 g2 g3;rw[if_neg g3,Wx]at hc
       rw[TK.ZnX];exact(hb.key T1 hk1 hz i' cs1 j es x g1 g2 dX (by rw[cell_of_row w B.b _ cells B.T (0,0) m1];exact hc)).ext vQ
      by_cases e:i'=i
      ·subst e
       rw[Wa (VH.1 gl).1]at lS
       simp only[VR]at lS
       subst lS;rw[JH hle]at hj
       by_cases c:o<=j/\j<o+qs.length
       ·rw[if_pos c]at hj
        exact absurd (Nq hns hj) dX
       ·rw[if_neg c]at hj
        exact Cp cs gl hj (by rw[h1];omega)
      ·rw[Wk (Ne.symm e)]at lS
       have MM:j<B.k:=by rw[<-hb.es i' sm lS];exact(VH.1 hj).1
       refine Cp sm lS hj ?_;rw[h1];intro⟨g1,g2⟩
       rcases Nat.lt_or_gt_of_ne e with bO|GS
       ·have:(i'+1)*B.k<=i*B.k:=V1 _ bO
        rw[WX]at this
        omega
       ·have:(i+1)*B.k<=i'*B.k:=V1 _ GS
        rw[WX]at this
        omega
  ·exact h.elim
 ·exact h.elim
end
section
variable {w:World} {O:Nat->Prop} {E:Env} {w0:World} {m:Mem} {P:Program}
def rE(m:Mem):PV->Option (List (List PV))
 |.sl es=>ZA es
 |.v (.slice ZB 0 _)=>ZA []
 |.ms l=>match m[l]? with
  |some (ZA mb)=>ZA mb.es
  |_=>ZB
 |.ss l a b=>match m[l]? with
  |some (ZA mb)=>ZA ((mb.es.drop a).take (b-a))
  |_=>ZB
 |_=>ZB
theorem SF(h:j<k):(i*k+j) / k=i/\(i*k+j) % k=j:=by
 have hk:0<k:=YG;refine⟨?_,?_⟩
 ·rw[XF,Nat.add_mul_div_right _ _ hk,Nat.div_eq_of_lt h,VY]
 ·rw[XF,Yr,Ye h]
theorem QH{B:cL}{mb:MB}(hb:dA w E mb B)(hz:B.z=ZD){a b:Nat}(IJ:a<=b)(hbn:b<=B.n){es:List (List PV)}(zq:es=(mb.es.drop a).take (b-a))(GU:0<k)(hlen:∀(i:Nat) (cs:List PV),es[i]?=ZA cs->cs.length=k):
 ∃news:List Value,news.length=es.length*k/\(∀j u,news[j]?=ZA u->w.cell? ((⟨B.b,a*B.k,ZB⟩:Addr).add j)=ZA u)/\(∀u∈news,u.oneCell'=ZC)/\
  ∀(i:Nat) (cs:List PV) (j:Nat) (p:PV),es[i]?=ZA cs->cs[j]?=ZA p->∃u,news[i*k+j]?=ZA u/\cN w E p u:=by
 obtain⟨cells,m1,m2,m3⟩:=hb.mem hz;have hn:=hb.n;have hel:es.length=b-a:=by grind
 have get:∀{i:Nat} {cs:List PV},es[i]?=ZA cs->mb.es[a+i]?=ZA cs:=by
  grind
 rcases Nat.eq_zero_or_pos es.length with h0|h0
 ·simp_all
 have e0:B.k=k:=(hb.es _ _ (get (VF h0))).symm.trans (hlen 0 _ (VF h0));rw[e0]at m2 m3
 have bO:∀t,t<es.length*k->∃x,cells[a*k+t]?=ZA x/\x.oneCell'=true:=by
  intro t ht;have hq:t / k<es.length:=by rw[XL GU];omega
  have hr':=XM t GU;have e1:=VF hq;have e2:(es[t / k])[t % k]?=ZA ((es[t / k])[t % k]' YN):=VF _;have e3:t / k*k+t % k=t:=by rw[Nat.mul_comm];exact Nat.div_add_mod t k
  grind
 have Zpn:a*k+es.length*k<=cells.size:=by
  rw[m2,<-Xm];exact V1 _ (by have:=hb.nc;omega)
 refine⟨(cells.toList.drop (a*k)).take (es.length*k),by grind,λj v hj=>?_,λv hv=>?_,λi cs j p hi hj=>?_⟩
 ·have ea:(⟨B.b,a*B.k,ZB⟩:Addr).add j=⟨B.b,a*k+j,ZB⟩:=by rw[e0];unfold Addr.add;simp
  rw[ea,cell_of_row w B.b _ cells B.T (0,0) m1]
  grind
 ·obtain⟨t,ht⟩:=Xf hv
  grind
 ·have wI:i<es.length:=(VH.1 hi).1
  have bO:i*k+j<es.length*k:=by
   have:(i+1)*k<=es.length*k:=V1 _ wI
   grind
  grind
theorem Zi0(hk:Ok w0 O E w m){p:PV}(hy:cN w E p y){es:List (List PV)}(hs:rE m p=ZA es)(GU:0<k)(hlen:∀(i:Nat) (cs:List PV),es[i]?=ZA cs->cs.length=k):
 (∃c,y=.slice ZB 0 c/\es=[])\/∃(a:Addr) (c:Nat) (news:List Value),y=.slice (ZA a) es.length c/\news.length=es.length*k/\(∀j u,news[j]?=ZA u->w.cell? (a.add j)=ZA u)/\(∀u∈news,u.oneCell'=ZC)/\
  ∀(i:Nat) (cs:List PV) (j:Nat) (p:PV),es[i]?=ZA cs->cs[j]?=ZA p->∃u,news[i*k+j]?=ZA u/\cN w E p u:=by
 unfold rE at hs
 split at hs
 ·rename_i vC
  obtain rfl:vC=es:=by grind
  cases hy.xp with
  |nil A c=>
   cases A with
   |none=>simp
   |some a=>simp
  |sl _ b off k' c u hS hkp hn hm zq hc h1 hr=>
   refine .inr ⟨⟨b,off,ZB⟩,c,(Wq (vC.length*k)).map λt=>u (t / k) (t % k),rfl,by simp,λj v hj=>?_,λv hv=>?_,λi cs j p hi hj=>?_⟩
   ·have MM:j<vC.length*k:=by grind
    have hq:j / k<vC.length:=by rw[XL GU];omega
    have hr':=XM j GU;have e1:=VF hq;have e0:k'=k:=(zq _ _ e1).symm.trans (hlen _ _ e1);have e2:(vC[j / k])[j % k]?=ZA ((vC[j / k])[j % k]' YN):=VF _;have:=hc _ _ _ _ e1 e2;rw[e0]at this
    have e3:j / k*k+j % k=j:=by rw[Nat.mul_comm];exact Nat.div_add_mod j k
    have ea:(⟨b,off,ZB⟩:Addr).add j=⟨b,off+j,ZB⟩:=by unfold Addr.add;simp
    grind
   ·obtain⟨t,ht,rfl⟩:=List.mem_map.1 hv
    have MM:t<vC.length*k:=by grind
    have hq:t / k<vC.length:=by rw[XL GU];omega
    have hr':=XM t GU;have e1:=VF hq;have e2:(vC[t / k])[t % k]?=ZA ((vC[t / k])[t % k]' YN):=VF _
    grind
   ·have MM:j<k:=by grind
    have wI:i<vC.length:=(VH.1 hi).1;obtain⟨d1,d2⟩:=SF (i:=i) MM;have bO:i*k+j<vC.length*k:=by
     have:(i+1)*k<=vC.length*k:=V1 _ wI
     grind
    refine⟨u i j,?_,.c (hr i cs j p hi hj)⟩
    grind
 ·obtain rfl:es=[]:=by grind
  obtain⟨rfl,_⟩:=hy.cF;simp
 ·split at hs
  ·rename_i l mb hm
   obtain rfl:mb.es=es:=by grind
   obtain⟨B,hB,hb,rfl⟩:=hy.ln hk hm
   cases hz:B.z with
   |true=>exact .inl ⟨0,by simp[cL.sv,hz],hb.nil hz⟩
   |false=>
    obtain⟨news,n1,n2,n3,n4⟩:=QH hb hz (a:=0) (b:=B.n) (WG _) (VJ _) (es:=mb.es) (by simp[hb.n]) GU hlen
    exact .inr ⟨_,B.c,news,by simp[cL.sv,hz,hb.n],n1,n2,n3,n4⟩
  grind
 ·split at hs
  ·rename_i l a b _ mb hm
   obtain rfl:(mb.es.drop a).take (b-a)=es:=by grind
   obtain⟨B,hB,hb,A,c,rfl,IJ,hbn,hA⟩:=hy.EZ hk hm;have hel:((mb.es.drop a).take (b-a)).length=b-a:=by rw[V3,WH,<-hb.n];omega
   rcases Wg a b with bO|Ev
   ·obtain⟨hz,rfl,Kc,Of⟩:=hA bO
    obtain⟨news,n1,n2,n3,n4⟩:=QH hb hz IJ hbn rfl GU hlen
    grind
   ·cases A with
    |none=>simp_all
    |some ad=>
     simp_all
  grind
 grind
def fV(P:Program)(ν:Nat)(m:Mem)(T:TypeId)(s x:PV)(K:PV->Mem->Prop):Prop:=
 match P.underlying T with
 |some (.slice e)=>match pz P e,rE m x with
  |some zc,ZA es=>zc.length=P.cellsOf e/\0<P.cellsOf e/\(∀cs∈es,cs.length=P.cellsOf e)/\match s with
   |.ms l=>live m l λmb=>mb.T.t=e/\mb.k=P.cellsOf e/\mb.es.length+es.length<=1099511627776/\(mb.es.length+es.length)*P.bytesOf e<=140737488355328/\
    K (.ms ν) (py (m.set l ZB) ν ⟨mb.T.sts es,P.cellsOf e,mb.es++es⟩)
   |.ss l a b=>a=0/\live m l λmb=>mb.T.t=e/\mb.k=P.cellsOf e/\(b<=mb.es.length/\¬mb.es=[])/\b+es.length<=1099511627776/\(b+es.length)*P.bytesOf e<=140737488355328/\
    K (.ms ν) (py (m.set l ZB) ν ⟨mb.T.sts es,P.cellsOf e,mb.es.take b++es⟩)
   |.v (.slice ZB 0 0)=>es.length<=1099511627776/\es.length*P.bytesOf e<=140737488355328/\K (.ms ν) (py m ν ⟨e,P.cellsOf e,es⟩)
   |_=>False
  |_,_=>False
 |_=>False
theorem run_append_nil{t ty e:Nat}{i:TypeInfo}(ht:P.underlying t=ZA (.slice e))(hi:P.info? e=ZA i)(c:Nat):
 (Builtin.append_ #[t,t] ty #[.slice ZB 0 0,.slice ZB 0 c]).run P w=.ok (.slice ZB 0 0) w:=by
 simp[Builtin.append_,run_underlying ht,sizeOf,typeInfo,hi,Builtin.lenOf,Builtin.firstCells]
theorem Gz{t ty e:Nat}{i:TypeInfo}(ht:P.underlying t=ZA (.slice e))(hi:P.info? e=ZA i)(g:Addr)(n cap c:Nat)(xt:n<=cap):
 (Builtin.append_ #[t,t] ty #[.slice (ZA g) n cap,.slice ZB 0 c]).run P w=.ok (.slice (ZA g) n cap) w:=by
 simp[Builtin.append_,run_underlying ht,sizeOf,typeInfo,hi,Builtin.lenOf,Builtin.firstCells,xt,storeCells]
theorem Fm{es vC:List (List PV)}(GU:0<k){E':Env}{w':World}(hx:Ext w w' E E'){Cp news:List Value}(ho:Cp.length=es.length*k)(hn:news.length=vC.length*k)
 (h1:∀(i:Nat) (cs:List PV),es[i]?=ZA cs->cs.length=k) (h2:∀(i:Nat) (cs:List PV),vC[i]?=ZA cs->cs.length=k)
 (r1:∀(i:Nat) (cs:List PV) (j:Nat) (p:PV),es[i]?=ZA cs->cs[j]?=ZA p->∃u,Cp[i*k+j]?=ZA u/\u.oneCell'=ZC/\cN w E p u)
 (BN:∀u∈news,u.oneCell'=ZC)
 (r2:∀(i:Nat) (cs:List PV) (j:Nat) (p:PV),vC[i]?=ZA cs->cs[j]?=ZA p->∃u,news[i*k+j]?=ZA u/\cN w E p u)
 {cur:Array Value} (Zro:cur.toList.take ((es.length+vC.length)*k)=Cp++news):
 (∀(i:Nat) (cs:List PV),(es++vC)[i]?=ZA cs->cs.length=k)/\∀(i:Nat) (cs:List PV) (j:Nat) (p:PV),(es++vC)[i]?=ZA cs->cs[j]?=ZA p->∃x,cur[i*k+j]?=ZA x/\x.oneCell'=ZC/\cN w' E' p x:=by
 have hlen:∀(i:Nat) (cs:List PV),(es++vC)[i]?=ZA cs->cs.length=k:=by
  grind
 refine⟨hlen,λi cs j p hi hj=>?_⟩
 have wI:i<es.length+vC.length:=by grind
 have As:i*k+j<(es.length+vC.length)*k:=by
  have:(i+1)*k<=(es.length+vC.length)*k:=V1 _ wI
  grind
 have vO:cur[i*k+j]?=(Cp++news)[i*k+j]?:=by grind
 rw[vO]
 rcases Wg i es.length with h|h
 ·rw[Wi h]at hi
  obtain⟨u,u1,u2,u3⟩:=r1 i cs j p hi hj;exact⟨u,by grind,u2,u3.ext hx⟩
 ·rw[V9 h]at hi
  obtain⟨u,u1,u3⟩:=r2 _ cs j p hi hj;have Ev:Cp.length<=i*k+j:=by
   have:es.length*k<=i*k:=V1 _ h;omega
  refine⟨u,?_,BN u (VI u1),u3.ext hx⟩;rw[V9 Ev,<-u1]
  congr 1
  rw[Nat.sub_mul];have:es.length*k<=i*k:=V1 _ h;omega
theorem Cy{es:List (List PV)}(hu:P.underlying T=ZA (.slice e))(hz:(pz P e).isSome=ZC)(Au:∀zc,pz P e=ZA zc->zc.length=P.cellsOf e)(gD:0<P.cellsOf e)(hlen:∀cs∈es,cs.length=P.cellsOf e)
 (hsr:(∃c,y=.slice ZB 0 c/\es=[])\/∃(a:Addr) (c:Nat) (news:List Value),y=.slice (ZA a) es.length c/\news.length=es.length*P.cellsOf e/\(∀j u,news[j]?=ZA u->w.cell? (a.add j)=ZA u)/\(∀u∈news,u.oneCell'=ZC)/\
  ∀(i:Nat) (cs:List PV) (j:Nat) (p:PV),es[i]?=ZA cs->cs[j]?=ZA p->∃u,news[i*P.cellsOf e+j]?=ZA u/\cN w E p u)
 (MD:es.length<=1099511627776) (rU:es.length*P.bytesOf e<=140737488355328):
 ∃(B:cL) (w':World),(Builtin.append_ #[T,T] ty #[.slice ZB 0 0,y]).run P w=.ok B.sv w'/\w'.os=w.os/\w'.tape=w.tape/\w'.output=w.output/\w.heap.size<=w'.heap.size/\(∀b,b<w.heap.size->w'.heap[b]?=w.heap[b]?)/\
  (B.z=ZD->w.heap.size<=B.b/\B.b<w'.heap.size)/\∀E',Ext w w' E E'->dA w' E' ⟨e,P.cellsOf e,es⟩ B:=by
 obtain⟨zc,hz⟩:=Option.isSome_iff_exists.1 hz;have Au:=Au zc hz;obtain⟨i,z,hi,vF,hc⟩:=EV (w:=w) (E:=E) hz;have Vl:i.size=P.cellsOf e:=by simp[Program.cellsOf,hi]
 have hib:i.bytes=P.bytesOf e:=by simp[Program.bytesOf,hi]
 have hzs:z.cells.size=P.cellsOf e:=by rw[hc.1,Au]
 have IQ:∀(i:Nat) (cs:List PV),es[i]?=ZA cs->cs.length=P.cellsOf e:=λi cs h=>hlen cs (VI h)
 have ZpQ:es=[]->∀E',dA w E' ⟨e,P.cellsOf e,es⟩ ⟨0,0,0,P.cellsOf e,e,ZC⟩:=λh0 E'=>
  ⟨rfl,by grind,rfl,gD,VJ _,WG _,YG,λ_=>h0,λh=>YT,λ_ hT=>by simp⟩
 rcases hsr with⟨c,rfl,h0⟩ |⟨a,c,news,rfl,D0,xt,BN,hnr⟩
 ·exact⟨⟨0,0,0,P.cellsOf e,e,ZC⟩,w,run_append_nil hu hi c,rfl,rfl,rfl,VJ _,λ_ _=>rfl,λh=>YT,λE' _=>ZpQ h0 E'⟩
 ·obtain⟨v',w',kn,ZeP,hg,ZhG,CY⟩:=run_append_own_at (P:=P) w 0 T ty e i z (P.cellsOf e) (P.bytesOf e) hu hi vF Vl hib hzs gD _ 0 [] (World.ownsRow_nil _ _ _ _) a es.length c news D0 xt BN Y6 YN (WG _)
  have hold:∀b,b<w.heap.size->w'.heap[b]?=w.heap[b]?:=λb uQ=>hg.block b uQ (by simp[Value.ownBlock])
  rcases ZeP.2 with⟨rfl,h0⟩ |⟨g,cap,cur,rfl,hgB,hgh,Ew,Gh,Vk,GS⟩
  ·have h0':es=[]:=List.length_eq_zero_iff.1 YG
   refine⟨⟨0,0,0,P.cellsOf e,e,ZC⟩,w',kn,hg.os,hg.tape,hg.output,hg.size,hold,λh=>YT,λE' _=>?_⟩
   exact⟨rfl,by grind,rfl,gD,VJ _,WG _,YG,λ_=>h0',λh=>YT,λ_ hT=>by simp⟩
  ·simp only[Value.ownBlock]at CY
   have xH:g<w'.heap.size:=(VQ.1 hgh).1;simp at GS Ew kn
   refine⟨⟨g,cap,es.length,P.cellsOf e,e,ZD⟩,w',kn,hg.os,hg.tape,hg.output,hg.size,hold,λ_=>⟨by grind,xH⟩,λE' vQ=>?_⟩
   obtain⟨g1,g2⟩:=Fm (es:=[]) (vC:=es) (k:=P.cellsOf e) gD vQ (Cp:=[]) (news:=news) YJ D0 YJ IQ YJ BN hnr (cur:=cur) YN;exact⟨rfl,rfl,rfl,gD,Ew,Gh,g1,λh=>YT,λ_=>⟨cur,hgh,Vk,g2⟩,λ_ hT=>by cases hT⟩
theorem Hy(hk:Ok w0 O E w m)(Av:¬E.used ν){es:List (List PV)}{zc:List PV}(hu:P.underlying T=ZA (.slice e))(hz:pz P e=ZA zc)(Au:zc.length=P.cellsOf e)(gD:0<P.cellsOf e)
 (ZeS:∀zc',pz P e=ZA zc'->zc'.length=P.cellsOf e) (hlen:∀cs∈es,cs.length=P.cellsOf e) (IQ:∀(i:Nat) (cs:List PV),es[i]?=ZA cs->cs.length=P.cellsOf e)
 (hsr:(∃c,y=.slice ZB 0 c/\es=[])\/∃(a:Addr) (c:Nat) (news:List Value),y=.slice (ZA a) es.length c/\news.length=es.length*P.cellsOf e/\(∀j u,news[j]?=ZA u->w.cell? (a.add j)=ZA u)/\(∀u∈news,u.oneCell'=ZC)/\
  ∀(i:Nat) (cs:List PV) (j:Nat) (p:PV),es[i]?=ZA cs->cs[j]?=ZA p->∃u,news[i*P.cellsOf e+j]?=ZA u/\cN w E p u)
 {B B0:cL} (hB:E.β l=ZA B) (e1:B0.b=B.b) (e2:B0.z=B.z) {mb:MB} (hb:dA w E mb B0) (hmT:mb.T.t=e) (hmk:mb.k=P.cellsOf e) (MD:mb.es.length+es.length<=1099511627776) (rU:(mb.es.length+es.length)*P.bytesOf e<=140737488355328):
 yV P w0 O E w ν (Builtin.append_ #[T,T] ty #[B0.sv,y]) (.ms ν) (py (m.set l ZB) ν ⟨mb.T.sts es,P.cellsOf e,mb.es++es⟩):=by
 have hBk:B0.k=P.cellsOf e:=hb.k.trans hmk;have hBT:B0.T=e:=hb.T.trans hmT
 cases hzB:B0.z with
 |true=>
  have h0:=hb.nil hzB;obtain⟨B',w',kn,g1,g2,g3,g4,g5,g6,g7⟩:=Cy (w:=w) (E:=E) (ty:=ty) hu Y9 ZeS gD hlen hsr YG (by
   simp_all)
  have hmv:=hk.move Av hB ⟨mb.T.sts es,P.cellsOf e,mb.es++es⟩ B' g1 g2 g3 g4 (λb uQ _=>g5 b uQ) (λvF=>.inr (g6 vF).1) (λvF=>(g6 vF).2) λvQ=>by
   rw[h0];exact(g7 _ vQ).Zlq ((TK.Rw _ _).trans hmT) λT1 h1=>(N4 h1).2
  refine⟨_,w',_,by rw[show B0.sv=.slice ZB 0 0 by simp[cL.sv,hzB]];exact kn,hmv.1,hmv.2,.ms _ _ (.inl rfl) Zv λB1 BK=>?_,λl hl=>hl.symm⟩
  have:B1=B':=by simpa[Env.move,eq_comm]using BK
  grind
 |false=>
  obtain⟨i,z,hi,vF,hc⟩:=EV (w:=w) (E:=E) hz;have Vl:i.size=P.cellsOf e:=by simp[Program.cellsOf,hi]
  have hib:i.bytes=P.bytesOf e:=by simp[Program.bytesOf,hi]
  have hzs:z.cells.size=P.cellsOf e:=by rw[hc.1,Au]
  have Znt:B.z=false:=e2.symm.trans hzB;obtain⟨o1,o2,o3⟩:=hk.own l B hB Znt;obtain⟨cells,m1,m2,m3⟩:=hb.mem hzB;rw[hBk]at m2 m3
  have La:B0.sv=.slice (ZA ⟨B0.b,0,ZB⟩) B0.n B0.c:=by simp[cL.sv,hzB]
  rw[La]
  rcases hsr with⟨c,rfl,rfl⟩ |⟨a,c,news,rfl,D0,xt,BN,hnr⟩
  ·have hmv:=hk.move (w':=w) Av hB ⟨mb.T.sts [],P.cellsOf e,mb.es++[]⟩ B0 rfl rfl rfl (VJ _) (λ_ _ _=>rfl) (λ_=>.inl ⟨Znt,e1⟩) (λ_=>YG) λvQ=>⟨hBk,by rw[hb.n];simp,hBT.trans ((TK.Rw _ _).trans hmT).symm,hb.pos,hb.nc,hb.cm,by
    intro i cs hi;simp at hi;exact hb.es i cs hi,λh=>Y9,λ_=>⟨cells,m1,by simp_all,by
    intro i cs j p hi hj;simp only[Wy]at hi
    obtain⟨x,x1,x2,x3⟩:=m3 i cs j p hi hj;rw[hBk];exact⟨x,x1,x2,x3.ext vQ⟩⟩,λT1 hT1 hz1 i cs j es x hi hj dX hc=>by
    simp only[Wy]at hi
    rw[TK.Rw];exact(hb.key T1 (N4 hT1).1 hz1 i cs j es x hi hj dX hc).ext vQ⟩
   refine⟨_,w,_,Gz (w:=w) hu hi _ _ _ c hb.nc,hmv.1,hmv.2,.ms _ _ (.inl rfl) rfl λB' lB=>?_,λl hl=>hl.symm⟩
   have:B'=B0:=by simpa[Env.move,eq_comm]using lB
   simp_all
  ·have Zrw:B0.n*P.cellsOf e<=B0.c*P.cellsOf e:=V1 _ hb.nc
   have sA:w.ownsRow 0 e (P.cellsOf e) (.slice (ZA ⟨B0.b,0,ZB⟩) B0.n B0.c) B0.n (cells.toList.take (B0.n*P.cellsOf e)):=
    ⟨by simp_all,.inr ⟨B0.b,B0.c,cells,rfl,WG _,by simp_all,hb.nc,hb.cm,m2,rfl⟩⟩
   obtain⟨v',w',kn,ZeP,hg,ZhG,CY⟩:=run_append_own_at (P:=P) w 0 T ty e i z (P.cellsOf e) (P.bytesOf e) hu hi vF Vl hib hzs gD _ B0.n _ sA a es.length c news D0 xt BN (by rw[hb.n];unfold maxLen;omega) (by rw[hb.n];omega) (WG _)
   rcases ZeP.2 with⟨rfl,_⟩ |⟨g,cap,cur,rfl,hgB,hgh,Ew,Gh,Vk,GS⟩
   ·simp_all
   ·simp only[Value.ownBlock,VR]at CY hg
    have xH:g<w'.heap.size:=(VQ.1 hgh).1;have hmv:=hk.move (w':=w') Av hB ⟨mb.T.sts es,P.cellsOf e,mb.es++es⟩ ⟨g,cap,B0.n+es.length,P.cellsOf e,e,ZD⟩ hg.os hg.tape hg.output hg.size
     (λb uQ xj=>hg.block b uQ Y9) (λ_=>by grind) (λ_=>xH) λvQ=>by
      obtain⟨g1,g2⟩:=Fm (es:=mb.es) (vC:=es) (k:=P.cellsOf e) gD vQ (Cp:=cells.toList.take (B0.n*P.cellsOf e)) (news:=news) (by rw[V3,Wn,<-hb.n];omega) D0
       (λi cs hi=>(hb.es i cs hi).trans hBk) IQ (λi cs j p hi hj=>by
        have MM:j<P.cellsOf e:=by rw[<-(hb.es i cs hi).trans hBk];grind
        have wI:i<B0.n:=by rw[hb.n];grind
        have bO:i*P.cellsOf e+j<B0.n*P.cellsOf e:=by
         have:(i+1)*P.cellsOf e<=B0.n*P.cellsOf e:=V1 _ wI
         grind
        grind) BN hnr (cur:=cur) (by rw[<-hb.n];omega)
      exact⟨rfl,by simp[hb.n],((TK.Rw _ _).trans hmT).symm,gD,Ew,Gh,g1,λh=>YT,λ_=>⟨cur,hgh,Vk,g2⟩,λT1 hT1 _ i cs j es1 x hi hj dX hc=>by
       obtain⟨hk1,hns⟩:=N4 hT1
       rcases Wg i mb.es.length with wI|wI
       ·simp only[Wi wI]at hi
        have MM:j<P.cellsOf e:=by grind
        have bO:i*P.cellsOf e+j<B0.n*P.cellsOf e:=by
         have:(i+1)*P.cellsOf e<=B0.n*P.cellsOf e:=V1 _ (by rw[hb.n];omega)
         grind
        have ZkH:i*P.cellsOf e+j<(B0.n+es.length)*P.cellsOf e:=by grind
        rw[cell_of_row w' g _ cur e (0,0) hgh]at hc
        have Gf:cells[i*P.cellsOf e+j]?=ZA x:=by
         have h5:cur.toList[i*P.cellsOf e+j]?=cells.toList[i*P.cellsOf e+j]?:=by
          rw[<-W0 ZkH,GS,Wi Y9,W0 bO]
         rw[Wx,Wx]at h5
         rw[<-h5];exact hc
        rw[TK.Rw];exact(hb.key T1 hk1 hzB i cs j es1 x hi hj dX (by rw[cell_of_row w B0.b _ cells B0.T (0,0) m1,hBk];omega)).ext vQ
       ·simp only[V9 wI]at hi
        exact absurd (Nq (hns cs (VI hi)) hj) dX⟩
    refine⟨_,w',_,kn,hmv.1,hmv.2,.ms _ _ (.inl rfl) rfl λB' lB=>?_,λl hl=>hl.symm⟩
    have e':B'=⟨g,cap,B0.n+es.length,P.cellsOf e,e,ZD⟩:=by simpa[Env.move,eq_comm]using lB
    subst e';rfl
theorem Kv(hk:Ok w0 O E w m)(Av:¬E.used ν){p q:PV}(hx:cN w E p x)(hy:cN w E q y){K:PV->Mem->Prop}(h:fV P ν m T p q K):
 ∃p m',K p m'/\yV P w0 O E w ν (Builtin.append_ #[T,T] ty #[x,y]) p m':=by
 unfold fV at h
 split at h
 ·rename_i e hu
  split at h
  ·rename_i zc es hz BO
   obtain⟨Au,gD,hlen,h⟩:=h;have ZeS:∀zc',pz P e=ZA zc'->zc'.length=P.cellsOf e:=λzc' h'=>by grind
   have IQ:∀(i:Nat) (cs:List PV),es[i]?=ZA cs->cs.length=P.cellsOf e:=λi cs h=>hlen cs (VI h)
   have hsr:=Zi0 hk hy BO gD IQ
   split at h
   ·obtain⟨mb,hm,hmT,hmk,MD,rU,hK⟩:=iE h
    obtain⟨B,hB,hb,rfl⟩:=hx.ln hk hm;exact⟨_,_,hK,Hy hk Av hu hz Au gD ZeS hlen IQ hsr hB rfl rfl hb hmT hmk MD rU⟩
   ·rename_i l a b
    obtain⟨rfl,h⟩:=h;obtain⟨mb,hm,hmT,hmk,CX,MD,rU,hK⟩:=iE h;obtain⟨B,hB,hb,hbn,hxv,A,c,hxs⟩:=hx.ZaA hk hm;have Bq:dA w E ⟨mb.T,mb.k,mb.es.take b⟩ ⟨B.b,B.c,b,B.k,B.T,B.z⟩:=hb.part hbn;have La:x=(⟨B.b,B.c,b,B.k,B.T,B.z⟩:cL).sv\/B.z=true:=by
     cases hz0:B.z with
     |false=>exact .inl (by rw[hxv hz0];rfl)
     |true=>simp
    rcases La with rfl|hz0
    ·exact⟨_,_,hK,Hy (mb:=⟨mb.T,mb.k,mb.es.take b⟩) (B0:=⟨B.b,B.c,b,B.k,B.T,B.z⟩) hk Av hu hz Au gD ZeS hlen IQ hsr hB rfl rfl Bq hmT hmk YN YN⟩
    ·exact absurd (hb.nil hz0) CX.2
   ·obtain⟨MD,rU,hK⟩:=h
    obtain⟨rfl,_⟩:=hx.cF;obtain⟨B',w',kn,g1,g2,g3,g4,g5,g6,g7⟩:=Cy (w:=w) (E:=E) (ty:=ty) hu YN ZeS gD hlen hsr MD rU;have hmv:=hk.new Av ⟨e,P.cellsOf e,es⟩ B' g1 g2 g3 g4 g5 g6 (g7 _);refine⟨_,_,hK,_,w',_,kn,hmv.1,hmv.2,.ms _ _ (.inl rfl) Zv λB1 BK=>?_,λl hl=>hl.symm⟩
    have:B1=B':=by simpa[Env.add,eq_comm]using BK
    grind
   grind
  grind
 grind
end
end Go.Proofs.YtbalgkakkoocjaaGreat
