/- A part of the proof of this claim's last theorem. No condition. -/
import Derived.WalkKit
import Derived.WalkSpells
import Derived.WalkLawsBesides
import Derived.Below
import Derived.Lib.Hide
import Derived.Outline
import Derived.Laws.OwnMore
import Derived.Maps.AppendAt
import Derived.Deep.Draws
import Derived.Deep.QuietTactic
import Derived.BigQuiet
import Derived.Lib.LaidTab
import Derived.Lib.ItoaNum
import Derived.Test.YtbjbellffaenaaaGreatDoorProg
import Derived.Laws.StructEq
import Derived.Deep.DeepCutAuto
import Derived.StillTailTactics
import Derived.Laws.AppendOwnNone
set_option linter.all false
set_option maxRecDepth 10000
open Go.Value renaming int->Zh
open Go.IntKind renaming i64->Zi
open Go renaming undef->Zj
open Option renaming some->F,none->J
open Bool renaming true->N,false->R
open Decidable renaming decide->Zg
open List renaming length->G
open _root_ renaming Array->M,ByteArray->V,List->C,Nat->D,Option->L,absurd->X
open Go.Proofs.Tryz
namespace Go.Proofs.YtbjbellffaenaaaGreatDoor
universe u
abbrev Yi:=@decide_eq_true
abbrev Yt:=@decide_eq_false
abbrev Yu:=@of_decide_eq_true
abbrev Yv:=@of_decide_eq_false
def Yw{α:Type u}(a b:α):cond true a b=a:=rfl
def Yx{α:Type u}(a b:α):cond false a b=b:=rfl
def Yy{p:Prop}[Decidable p]:decide p=true↔p:=decide_eq_true_iff
def Yz{p:Prop}{_:Decidable p}:decide p=false↔¬p:=decide_eq_false_iff_not
theorem YA{p:Prop}(h:p:=by omega):p:=h
theorem YB{p:Prop}(h:p:=by (repeat(first|exact Up.rfl' _|(refine Up.al _ ?_) |(refine Up.dr _ ?_) |(refine Up.sZ ?_) |(refine Up.sc ?_ (by first|exact VW _|(simp;done) |omega) _) |(refine Up.step (by assumption) ?_)))):p:=h
theorem YC{p:Prop}(h:p:=by kernel_rfl):p:=h
theorem YD{p:Prop}(h:p:=by grind):p:=h
theorem YE{p:Prop}(h:p:=by simp):p:=h
theorem YF{p:Prop}(h:p:=by unfold NN;omega):p:=h
theorem YG{p:Prop}(h:p:=by simp_all):p:=h
theorem YH{p:Prop}(h:p:=by first|exact VW _|(simp;done) |omega):p:=h
theorem YI{p:Prop}(h:p:=by simp[Op.operands]):p:=h
theorem YJ{p:Prop}(h:p:=by decide):p:=h
theorem YK{p:Prop}(h:p:=by simp only[bM,V5,V0,V2];omega):p:=h
theorem YL{p:Prop}(h:p:=by simp;omega):p:=h
theorem YM{p:Prop}(h:p:=by cases h):p:=h
theorem YN{p:Prop}(h:p:=by assumption):p:=h
theorem YO{p:Prop}(h:p:=by simp only[execOp,ho]):p:=h
theorem YP{p:Prop}(h:p:=by simpa[pc,eq_comm]using hp):p:=h
theorem YQ{p:Prop}(h:p:=by simp[kc,rP,qa,rn]):p:=h
theorem YR{p:Prop}(h:p:=by unfold maxLen;omega):p:=h
theorem YS{p:Prop}(h:p:=by intro hh;have h_:=World.ownsRow.lt Kl _ hh.symm;omega):p:=h
theorem YT{p:Prop}(h:p:=by rfl):p:=h
theorem YU{p:Prop}(h:p:=by unfold iq;simp_all):p:=h
theorem YV{p:Prop}(h:p:=by unfold maxLen;simp;omega):p:=h
theorem YW{p:Prop}(h:p:=by intro hh;have h_:=World.ownsRow.lt HO0.out _ hh;omega):p:=h
theorem YX{p:Prop}(h:p:=by unfold maxLen;simp only[V0,V2];omega):p:=h
theorem YY{p:Prop}(h:p:=by have h_:=vc.size;simpa using h_):p:=h
theorem YZ{p:Prop}(h:p:=by rw[bM];omega):p:=h
theorem Y0{p:Prop}(h:p:=by obtain⟨q,h1,h2⟩:=HM3.out;exact h2.left h1 (by omega)):p:=h
theorem Y1{p:Prop}(h:p:=by unfold iq;grind):p:=h
theorem Y2{p:Prop}(h:p:=by simp only[V0,V2];omega):p:=h
theorem Y3{p:Prop}(h:p:=by intro hh;have h3_:wr.heap.size+1=g3:=VV hh;omega):p:=h
theorem Y4{p:Prop}(h:p:=by have:=h.up.size;omega):p:=h
theorem Y5{p:Prop}(h:p:=by rw[ri];omega):p:=h
theorem Y6{p:Prop}(h:p:=by rw[vB];omega):p:=h
theorem Y7{p:Prop}(h:p:=by rw[vA];omega):p:=h
theorem Y8{p:Prop}(h:p:=by simp only[sH];omega):p:=h
theorem Y9{p:Prop}(h:p:=by unfold bn;grind):p:=h
theorem Za{p:Prop}(h:p:=by unfold fa;grind):p:=h
theorem Zb{p:Prop}(h:p:=by rw[e]):p:=h
open Nat renaming add_mul->Xq,add_comm->XG,zero_mul->XX,zero_add->Wa,add_assoc->XU,le_refl->VW,le_trans->Wd,lt_of_lt_of_le->Wn,lt_or_ge->Wu,zero_le->Ws,eq_zero_or_pos->XY,succ_mul->Xu,mod_eq_of_lt->X6,mul_le_mul_right->W,add_mul_mod_self_right->Yf,div_lt_iff_lt_mul->XL
open List renaming getElem?_eq_some_iff->VT,getElem?_append_left->Wz,getElem?_append_right->WE,take_add_one->Xz,getElem?_eq_getElem->Z,range->Wj,all_eq_true->VZ,mem_of_getElem?->VU,length_take->Wy,replicate->V9,length_set->Xd,getElem?_set_ne->WB,ofFn->XD,getElem?_of_mem->WL,getElem?_set_self->WR,getElem?_toArray->XJ,append_nil->Xc,getElem?_take_of_lt->Yr
open _root_.Array renaming getElem?_eq_some_iff->V6,getElem?_eq_getElem->V4,range->X4,getElem?_toList->WU,length_toList->W7
open Option renaming map_eq_some_iff->Wc,ite_none_right_eq_some->WZ,ite_none_left_eq_some->X3
open BitVec renaming ofInt->Wf
open Option.some renaming injEq->Y
open Go.RowKit
variable {EI EJ:L Value}{T e t ty:TypeId}{a b:World}{d:TypeDesc}{i j k l n off ν:D}{op:BinOp}{v x y:Value}{ys:C Value}
abbrev I(n:Int):Value:=Zh Zi n
class eZ(α:Type) where
 cells:α->C Value
 k:D
 len:∀x,(cells x).length=k
 pos:0<k
 one:∀x,∀u∈cells x,u.oneCell'=N
instance :eZ Int where
 cells x:=[I x]
 k:=1
 len _:=rfl
 pos:=by decide
 one:=by simp[Value.oneCell',I]
def flat{α:Type}[eZ α](xs:C α):C Value:=xs.flatMap eZ.cells
section flat
variable {α:Type} [eZ α]
theorem wL(x:α)(xs:C α):flat (x::xs)=eZ.cells x++flat xs:=rfl
theorem MW(xs ys:C α):flat (xs++ys)=flat xs++flat ys:=by simp[flat]
theorem Zbn(x:α):flat [x]=eZ.cells x:=by simp[flat]
theorem nd(xs:C α):G (flat xs)=G xs*eZ.k α:=by
 induction xs with
 |nil=>simp[flat]
 |cons x xs ih=>rw[wL,List.length_append,ih,eZ.len,List.length_cons,Xq,Nat.one_mul,XG]
theorem Kc(xs:C α):∀u∈flat xs,u.oneCell'=true:=by
 intro u hu;obtain⟨x,_,hx⟩:=List.mem_flatMap.1 hu;exact eZ.one x u hx
theorem xu{xs:C α}{x:α}(hx:xs[i]?=F x){u:Value}(hu:(eZ.cells x)[j]?=F u):(flat xs)[i*eZ.k α+j]?=F u:=by
 induction xs generalizing i with
 |nil=>grind
 |cons y ys ih=>
  have hl:=eZ.len (α:=α) y
  cases i with
  |zero=>
   obtain rfl:y=x:=by simp_all
   have hj:j<G (eZ.cells y):=(VT.1 hu).1;rw[wL,XX,Wa,Wz hj,hu]
  |succ i=>
   have h1:=ih (i:=i) YG;rw[wL,WE YD,<-h1]
   grind
end flat
def Rd{α:Type}[eZ α](w:World)(B:D)(A:L Addr)(xs:C α):Prop:=
 xs≠[]->∃b off,A=F ⟨b,off,J⟩/\b<B/\∀j u,(flat xs)[j]?=F u->w.cell? ⟨b,off+j,J⟩=F u
section rd
variable {α:Type} [eZ α] {w w':World} {B B':D} {A:L Addr} {xs:C α}
theorem Rd.Zfl:Rd w B A ([]:C α):=λh=>X rfl h
theorem Rd.aQ{x:α}(h:Rd w B A xs)(hx:xs[i]?=F x):
 ∃b off,A=F ⟨b,off,J⟩/\b<B/\∀j u,(eZ.cells x)[j]?=F u->w.cell? ⟨b,off+i*eZ.k α+j,J⟩=F u:=by
 obtain⟨b,off,e,hb,hc⟩:=h YD;exact⟨b,off,e,hb,λj u hu=>by rw[XU];exact hc _ u (xu hx hu)⟩
theorem Rd.Zky(h:Rd w B A xs)(hk:∀b o,b<B->w'.cell? ⟨b,o,J⟩=w.cell? ⟨b,o,J⟩):Rd w' B A xs:=λhn=>by
 obtain⟨b,off,e,hb,hc⟩:=h hn
 grind
theorem Rd.more(h:Rd w B A xs)(hB:B<=B'):Rd w B' A xs:=λhn=>by
 obtain⟨b,off,e,hb,hc⟩:=h hn
 grind
theorem Rd.below(h:Rd w B A xs)(hb:Below B w w'):Rd w' B A xs:=h.Zky λb o hp=>hb.cell (p:=⟨b,o,J⟩) hp
end rd
def Own{α:Type}[eZ α](w:World)(B:D)(E:TypeId)(v:Value)(xs:C α):Prop:=w.ownsRow B E (eZ.k α) v (G xs) (flat xs)
theorem JD{α:Type}{xs:C α}{x:α}(hx:xs[i]?=F x):xs.take (i+1)=xs.take i++[x]:=by
 rw[Xz,hx];rfl
theorem C0{α:Type}{xs:C α}(h:i<G xs):∃x,xs[i]?=F x:=⟨xs[i],Z h⟩
theorem I0{α:Type}{xs:C α}{x:α}(hx:xs[i]?=F x):i<G xs:=(VT.1 hx).1
theorem xw{α β:Type}{xs:C α}{x:α}(hx:xs[i]?=F x)(f:β->α->β)(a:β):(xs.take (i+1)).foldl f a=f ((xs.take i).foldl f a) x:=by
 rw[JD hx,List.foldl_append];rfl
theorem Below.next{B:D}{a b c:World}(h:Below B a b)(k:Below b.heap.size b c)(hB:B<=b.heap.size):Below B a c:=h.trans (k.mono hB)
abbrev Up(w w':World):Prop:=Below w.heap.size w w'
theorem Up.rfl'(w:World):Up w w:=Below.refl _ _
theorem Up.step{a b c:World}(k:Up b c)(h:Up a b):Up a c:=Below.trans h (Below.mono k h.size)
theorem Up.al(o:Obj)(h:Up a b):Up a (b.alloc o):=Below.alloc h h.size o
theorem Up.sc{p:Addr}(h:Up a b)(hp:a.heap.size<=p.block)(u:Value):Up a (b.setCell p u):=Below.setCell h hp u
theorem Up.dr(n:D)(h:Up a b):Up a (b.drewN n):=⟨h.os,h.tape,h.output,h.size,h.block⟩
theorem Up.sZ(h:Up a b):Up a b.drew:=Below.drew h
theorem Rd.up{α:Type}[eZ α]{w w':World}{A:L Addr}{xs:C α}(h:Rd w w.heap.size A xs)(hb:Up w w'):Rd w' w'.heap.size A xs:=(h.below hb).more hb.size
theorem Own.rd{α:Type}[eZ α]{w:World}{B E:D}{A:L Addr}{c n:D}{xs:C α}(h:Own w B E (.slice A n c) xs):Rd w w.heap.size A xs:=by
 intro gL;have iZ:0<G xs:=List.length_pos_iff.2 gL
 rcases h.2 with⟨_,h0⟩ |⟨g,cap,cur,hv,hB,hg,xW,EX,tv,ht⟩
 ·omega
 ·have hA:A=F ⟨g,0,J⟩:=by simp_all
  refine⟨g,0,hA,(V6.1 hg).1,λj u hu=>?_⟩
  rw[Wa,cell_of_row w g j cur E (0,0) hg]
  grind
theorem Own.up{α:Type}[eZ α]{w w':World}{B E:D}{xs:C α}(h:Own w B E v xs)(hb:Up w w'):Own w' B E v xs:=by
 refine⟨h.1,?_⟩
 rcases h.2 with h2|⟨g,cap,cur,hv,hB,hg,r⟩
 ·simp_all
 ·exact .inr ⟨g,cap,cur,hv,hB,(hb.block g (V6.1 hg).1).trans hg,r⟩
def Bd(n:D)(f:D->Bool):Bool:=(Wj n).all f
theorem zi{f:D->Bool}:Bd n f=N↔∀i,i<n->f i=true:=by simp[Bd]
theorem run_mk{P:Program}(t e:TypeId)(i:TypeInfo)(z:Value)(ht:P.underlying t=F (.slice e))(hi:P.info? e=F i)(hz:i.zero=F z)
 (n:D) (sN:i.bytes*n<=281474976710656) (h63:n<=9223372036854775807) (w:World):
 (Instr.makeSlice t (Zh Zi (n:Int)) (Zh Zi (n:Int))).run P w=.ok (.slice (F ⟨w.heap.size,0,J⟩) n n) (w.alloc (.cells (madeCells z.cells (n*i.size)) e)):=by
 have hb:(i.bytes:Int)*(n:Int)<=281474976710656:=by
  omega
 have hr:=run_make (P:=P) w t e i z ht hi hz .i64 .i64 n n YA YA hb YA
 simp_all
def oa(w:World)(B:D)(E:TypeId)(k:D)(g n i:D)(ys:C Value):Prop:=
 ∃cs:M Value,w.heap[g]?=F (.cells cs E (0,0))/\B<=g/\cs.size=n*k/\n<=maxLen/\cs.toList.take (i*k)=ys.take (i*k)
theorem oa.start(w:World)(B E k n:D)(z:M Value)(ys:C Value)(hB:B<=w.heap.size)(hn:n<=maxLen):
 oa (w.alloc (.cells (madeCells z (n*k)) E)) B E k w.heap.size n 0 ys:=
 ⟨_,heap_alloc_new w _,hB,by simp[madeCells],hn,by simp⟩
theorem oa.cell{w:World}{B E k g n i:D}(h:oa w B E k g n i ys)(hj:j<n*k):∃u,w.cell? ⟨g,j,J⟩=F u:=by
 obtain⟨cs,hh,_,hs,_⟩:=h;exact⟨cs[j]' YA,by rw[cell_of_row w g j cs E (0,0) hh];simp⟩
theorem oa.frozen{w:World}{B E k g n i:D}(h:oa w B E k g n i ys)(j:D):w.frozen? ⟨g,j,J⟩=false:=by
 obtain⟨cs,hh,_⟩:=h;exact frozen_of_row w g j cs E hh
theorem oa.kept{w w':World}{B E k g n i:D}(h:oa w B E k g n i ys)(hb:Below w.heap.size w w'):oa w' B E k g n i ys:=by
 obtain⟨cs,hh,r⟩:=h;exact⟨cs,(hb.block g (V6.1 hh).1).trans hh,r⟩
theorem oa.lt{w:World}{B E k g n i:D}(h:oa w B E k g n i ys):B<=g/\g<w.heap.size:=by
 obtain⟨cs,hh,hB,_⟩:=h
 grind
theorem oa.own{α:Type}[eZ α]{w:World}{B E g n:D}{ys:C α}(h:oa w B E (eZ.k α) g n n (flat ys))(hn:G ys=n):
 Own w B E (.slice (F ⟨g,0,J⟩) n n) ys:=by
 obtain⟨cs,hh,hB,hs,hm,ht⟩:=h;subst hn;have e1:(flat ys).take (G ys*eZ.k α)=flat ys:=List.take_of_length_le (by rw[nd];omega)
 exact⟨nd ys,.inr ⟨g,_,cs,rfl,hB,hh,VW _,hm,hs,by simp_all⟩⟩
theorem Zdq{cs:C Value}{j m:D}(v:Value)(h:m<=j):(cs.set j v).take m=cs.take m:=by
 rw[List.take_set_of_le h]
theorem Ak{cs ys:C Value}(hj:j<G cs)(hy:ys[j]?=F v)(h:cs.take j=ys.take j):(cs.set j v).take (j+1)=ys.take (j+1):=by
 rw[Xz,Xz,hy,Zdq v (VW _),h]
 grind
theorem oa.Znf{w:World}{B E g n i:D}(h:oa w B E 1 g n i ys)(hi:i<n)(hy:ys[i]?=F v):
 oa (w.setCell ⟨g,i,J⟩ v) B E 1 g n (i+1) ys:=by
 obtain⟨cs,hh,hB,hs,hm,ht⟩:=h;refine⟨cs.setIfInBounds i v,heap_setCell_same w g i cs E v hh,hB,by simp_all,hm,?_⟩
 rw[Nat.mul_one]at ht
 rw[Nat.mul_one,Array.toList_setIfInBounds];exact Ak YG hy ht
def ZdP (w : World) : Prop := Lib.TabIs prog w "internal/strconv.uint64pow10" .u64 Lib.pow10Tab
structure TabF(w:World):Prop where
 JC:ZdP w
 mx:∃m,w.cell? ⟨0,0,J⟩=F (Zh Zi m)
 es:∃t p,w.cell? ⟨3,0,J⟩=F (.iface t p)
 er:∃t p,w.cell? ⟨4,0,J⟩=F (.iface t p)
def DM(w:World)(O:D->Prop):Prop:=∃T:D->Prop,(∀b,T b->b<w.heap.size/\¬O b)/\∀w':World,(∀b,T b->w'.heap[b]?=w.heap[b]?)->TabF w'
theorem DM.of{w:World}{O:D->Prop}(h:∀w:World,TabF w):DM w O:=⟨λ_=>False,λ_ h=>h.elim,λw' _=>h w'⟩
theorem DM.here{w:World}{O:D->Prop}(h:DM w O):TabF w:=by
 obtain⟨T,_,h2⟩:=h;exact h2 w λ_ _=>rfl
inductive PV where
 |v (x:Value)
 |ud
 |un
 |sl (es:C (C PV))
 |rp (cs:C PV)
 |ms (l:D)
 |ss (l a b:D)
 |be (l i o:D)
 |ag (cs:C PV)
 |tu (vs:C PV)
 |fn (f:FuncId) (cs:C PV)
instance :Inhabited PV:=⟨.un⟩
structure TK where
 t:TypeId
 kd:L TypeId
def TK.of(n:TypeId):TK:=⟨n,J⟩
instance :Coe TypeId TK:=⟨TK.of⟩
@[simp] theorem TK.t_n(n:D):(TK.of n).t=n:=rfl
@[simp] theorem TK.Zok(n:D):(TK.of n).kd=none:=rfl
def UT:PV->Bool
 |.sl (_::_)=>R
 |_=>N
def TK.stb(T:TK)(b:Bool):TK:=match T.kd with
 |none=>T
 |some _=>if b=N then T else⟨T.t,J⟩
def TK.st(T:TK)(qs:C PV):TK:=T.stb (qs.all UT)
def TK.sts(T:TK)(es:C (C PV)):TK:=T.stb (es.all λqs=>qs.all UT)
@[simp] theorem TK.Zon(n:D)(qs:C PV):(TK.of n).st qs=TK.of n:=rfl
@[simp] theorem TK.ZnA(n:D)(es:C (C PV)):(TK.of n).sts es=TK.of n:=rfl
theorem TK.Zha(T:TK)(b:Bool):(T.stb b).t=T.t:=by
 unfold TK.stb
 grind
theorem TK.Zk7(T:TK)(qs:C PV):(T.st qs).t=T.t:=T.Zha _
theorem TK.Pb(T:TK)(es:C (C PV)):(T.sts es).t=T.t:=T.Zha _
theorem TK.Zdy{T:TK}{b:Bool}{T':TypeId}(h:(T.stb b).kd=F T'):T.kd=F T'/\b=true:=by
 unfold TK.stb at h
 grind
theorem KF{qs:C PV}(h:qs.all UT=N){es:C (C PV)}(hj:qs[j]?=F (.sl es)):es=[]:=by
 have:=VZ.1 h _ (VU hj)
 cases es with
 |nil=>rfl
 |cons a l=>cases this
structure MB where
 T:TK
 k:D
 es:C (C PV)
abbrev Mem:=C (L MB)
inductive eO(w:World)(S:D->Prop):PV->Value->Prop
 |v (x:Value) (h:x.oneCell'=N):eO w S (.v x) x
 |ud:eO w S .ud Zj
 |un (x:Value):eO w S .un x
 |nil (A:L Addr) (c:D):eO w S (.sl []) (.slice A 0 c)
 |sl (es:C (C PV)) (b off k c:D) (u:D->D->Value) (hS:S b) (hk:0<k) (hn:es.length<=c) (hm:c<=maxLen)
  (zq:∀(i:D) (cs:C PV),es[i]?=F cs->cs.length=k)
  (hc:∀(i:D) (cs:C PV) (j:D) (p:PV),es[i]?=F cs->cs[j]?=F p->w.cell? ⟨b,off+i*k+j,J⟩=F (u i j))
  (h1:∀(i:D) (cs:C PV) (j:D) (p:PV),es[i]?=F cs->cs[j]?=F p->(u i j).oneCell'=N)
  (hr:∀(i:D) (cs:C PV) (j:D) (p:PV),es[i]?=F cs->cs[j]?=F p->eO w S p (u i j)):eO w S (.sl es) (.slice (F ⟨b,off,J⟩) es.length c)
 |rp (cs:C PV) (b off:D) (u:D->Value) (hS:S b)
  (hc:∀(j:D) (p:PV),cs[j]?=F p->w.cell? ⟨b,off+j,J⟩=F (u j))
  (h1:∀(j:D) (p:PV),cs[j]?=F p->(u j).oneCell'=N)
  (hr:∀(j:D) (p:PV),cs[j]?=F p->eO w S p (u j)):eO w S (.rp cs) (.pointer (F ⟨b,off,J⟩))
 |fn (f:FuncId) (cs:C PV) (vs:M Value) (hl:vs.size=cs.length)
  (hr:∀(j:D) (p:PV) (x:Value),cs[j]?=F p->vs[j]?=F x->eO w S p x):eO w S (.fn f cs) (.func (.func f) #[] vs)
structure sx where
 b:D
 c:D
 n:D
 k:D
 T:TypeId
 z:Bool
def sx.sv(B:sx):Value:=if B.z then .slice J 0 0 else .slice (F ⟨B.b,0,J⟩) B.n B.c
abbrev Key:=D×D×D
structure Env where
 S:D->Prop
 β:D->L sx
 used:D->Prop
 ω:D->Key->Prop
inductive eC(w:World)(E:Env):PV->Value->Prop
 |c {p:PV} {x:Value} (h:eO w E.S p x):eC w E p x
 |ms (l:D) (x:Value) (hl:E.used l) (h1:x.oneCell'=N) (h:∀B,E.β l=F B->x=B.sv):eC w E (.ms l) x
 |ss (l a b:D) (x:Value) (hl:E.used l) (h1:x.oneCell'=N) (h:∀B,E.β l=F B->(∃A c,x=.slice A (b-a) c/\a<=b/\b<=B.n/\(a<b->B.z=R/\A=F ⟨B.b,a*B.k,J⟩/\b-a<=c/\c<=maxLen))/\(a=0->B.z=R->∃n,x=.slice (F ⟨B.b,0,J⟩) n B.c)):eC w E (.ss l a b) x
 |be (l i o:D) (x:Value) (hl:E.used l) (h1:x.oneCell'=N) (h:∀B,E.β l=F B->B.z=R/\x=.pointer (F ⟨B.b,i*B.k+o,J⟩)):eC w E (.be l i o) x
 |ag (cs:C PV) (vs:M Value) (hl:vs.size=cs.length) (h1:∀(j:D) (x:Value),vs[j]?=F x->x.oneCell'=N)
  (hr:∀(j:D) (p:PV) (x:Value),cs[j]?=F p->vs[j]?=F x->eC w E p x):eC w E (.ag cs) (.agg vs)
 |tu (ps:C PV) (vs:M Value) (hl:vs.size=ps.length)
  (hr:∀(j:D) (p:PV) (x:Value),ps[j]?=F p->vs[j]?=F x->eC w E p x):eC w E (.tu ps) (.tuple vs)
 |fn (f:FuncId) (cs:C PV) (vs:M Value) (hl:vs.size=cs.length)
  (hr:∀(j:D) (p:PV) (x:Value),cs[j]?=F p->vs[j]?=F x->eC w E p x):eC w E (.fn f cs) (.func (.func f) #[] vs)
def oW(β:D->L sx)(b:D):Prop:=∃l B,β l=F B/\B.z=R/\B.b=b
structure Ext(w w':World)(E E':Env):Prop where
 S:∀b,E.S b->E'.S b
 cell:∀b o,E.S b->w'.cell? ⟨b,o,J⟩=w.cell? ⟨b,o,J⟩
 β:∀l B,E.used l->E'.β l=F B->E.β l=F B
 used:∀l,E.used l->E'.used l
 S':∀b,E'.S b->E.S b\/w.heap.size<=b\/oW E.β b
 own:∀b,oW E'.β b->oW E.β b\/w.heap.size<=b
 size:w.heap.size<=w'.heap.size
 ω:∀b k,E.ω b k->E'.ω b k/\w'.heap[b]?=w.heap[b]?
 ω':∀b k,E'.ω b k->E.ω b k\/w.heap.size<=b\/oW E.β b
theorem Ext.refl(w:World)(E:Env):Ext w w E E:=⟨λ_ h=>h,λ_ _ _=>rfl,λ_ _ _ h=>h,λ_ h=>h,λ_ h=>.inl h,λ_ h=>.inl h,VW _,λ_ _ h=>⟨h,rfl⟩,λ_ _ h=>.inl h⟩
theorem Ext.trans{w w1 w2:World}{E E1 E2:Env}(h:Ext w w1 E E1)(k:Ext w1 w2 E1 E2):Ext w w2 E E2:=
 ⟨λb hb=>k.S b (h.S b hb),λb o hb=>(k.cell b o (h.S b hb)).trans (h.cell b o hb),λl B hl hB=>h.β l B hl (k.β l B (h.used l hl) hB),λl hl=>k.used l (h.used l hl),
  λb hb=>by
   rcases k.S' b hb with h1|h1|h1
   ·exact h.S' b h1
   ·exact .inr (.inl (Wd h.size h1))
   ·rcases h.own b h1 with h2|h2
    all_goals grind,λb hb=>by
   rcases k.own b hb with h1|h1
   ·exact h.own b h1
   ·exact .inr (Wd h.size h1),Wd h.size k.size,λb q hq=>⟨(k.ω b q (h.ω b q hq).1).1,(k.ω b q (h.ω b q hq).1).2.trans (h.ω b q hq).2⟩,λb q hq=>by
   rcases k.ω' b q hq with h1|h1|h1
   ·exact h.ω' b q h1
   ·exact .inr (.inl (Wd h.size h1))
   ·rcases h.own b h1 with h2|h2
    all_goals grind⟩
theorem eO.ext{w w':World}{S S':D->Prop}(hS:∀b,S b->S' b)(hc:∀b o,S b->w'.cell? ⟨b,o,J⟩=w.cell? ⟨b,o,J⟩){p:PV}(h:eO w S p x):eO w' S' p x:=by
 induction h with
 |v x h=>exact .v x h
 |ud=>exact .ud
 |un x=>exact .un x
 |nil A c=>exact .nil A c
 |sl es b off k c u hSb hk hn hm zq ta h1 hr ih=>
  exact .sl es b off k c u (hS b hSb) hk hn hm zq (λi cs j p h h'=>(hc _ _ hSb).trans (ta i cs j p h h')) h1 ih
 |rp cs b off u hSb ta h1 hr ih=>
  exact .rp cs b off u (hS b hSb) (λj p h=>(hc _ _ hSb).trans (ta j p h)) h1 ih
 |fn f cs vs hl hr ih=>exact .fn f cs vs hl ih
theorem eC.ext{w w':World}{E E':Env}(hx:Ext w w' E E'){p:PV}{x:Value}(h:eC w E p x):eC w' E' p x:=by
 induction h with
 |c h=>exact .c (h.ext hx.S hx.cell)
 |ms l x hl h1 h=>exact .ms l x (hx.used l hl) h1 λB hB=>h B (hx.β l B hl hB)
 |ss l a b x hl h1 h=>exact .ss l a b x (hx.used l hl) h1 λB hB=>h B (hx.β l B hl hB)
 |be l i o x hl h1 h=>exact .be l i o x (hx.used l hl) h1 λB hB=>h B (hx.β l B hl hB)
 |ag cs vs hl h1 hr ih=>exact .ag cs vs hl h1 ih
 |tu ps vs hl hr ih=>exact .tu ps vs hl ih
 |fn f cs vs hl hr ih=>exact .fn f cs vs hl ih
def L1(w:World)(E:Env)(T:TypeId)(q:Key)(es:C (C PV))(x:Value):Prop:=
 ∃b c k cs,x=.slice (F ⟨b,0,J⟩) (G es) c/\E.ω b q/\w.heap[b]?=F (.cells cs T (0,0))/\cs.size=c*k/\0<k/\(G es)<=c/\c<=maxLen/\∀e∈es,G e=k
theorem L1.ext{w w':World}{E E':Env}{q:Key}{es:C (C PV)}(h:L1 w E T q es x)(hx:Ext w w' E E'):L1 w' E' T q es x:=by
 obtain⟨b,c,k,cs,h1,h2,h3,h4⟩:=h;exact⟨b,c,k,cs,h1,(hx.ω b q h2).1,(hx.ω b q h2).2.trans h3,h4⟩
theorem eC.same{w:World}{E E':Env}(hS:∀b,E.S b->E'.S b)(Az:∀l B,E.used l->E'.β l=F B->E.β l=F B)(hu:∀l,E.used l->E'.used l){p:PV}(h:eC w E p x):eC w E' p x:=by
 induction h with
 |c h=>exact .c (h.ext hS λ_ _ _=>rfl)
 |ms l x hl h1 h=>exact .ms l x (hu l hl) h1 λB hB=>h B (Az l B hl hB)
 |ss l a b x hl h1 h=>exact .ss l a b x (hu l hl) h1 λB hB=>h B (Az l B hl hB)
 |be l i o x hl h1 h=>exact .be l i o x (hu l hl) h1 λB hB=>h B (Az l B hl hB)
 |ag cs vs hl h1 hr ih=>exact .ag cs vs hl h1 ih
 |tu cs vs hl hr ih=>exact .tu cs vs hl ih
 |fn f cs vs hl hr ih=>exact .fn f cs vs hl ih
structure iA(w:World)(E:Env)(mb:MB)(B:sx):Prop where
 k:B.k=mb.k
 n:B.n=mb.es.length
 T:B.T=mb.T.t
 pos:0<B.k
 nc:B.n<=B.c
 cm:B.c<=maxLen
 es:∀(i:D) (cs:C PV),mb.es[i]?=F cs->cs.length=B.k
 nil:B.z=N->mb.es=[]
 mem:B.z=R->∃cells:M Value,w.heap[B.b]?=F (.cells cells B.T (0,0))/\cells.size=B.c*B.k/\
  ∀(i:D) (cs:C PV) (j:D) (p:PV),mb.es[i]?=F cs->cs[j]?=F p->∃x,cells[i*B.k+j]?=F x/\x.oneCell'=N/\eC w E p x
 key:∀T,mb.T.kd=F T->B.z=R->∀(i:D) (cs:C PV) (j:D) (es:C (C PV)) (x:Value),mb.es[i]?=F cs->cs[j]?=F (.sl es)->es≠[]->w.cell? ⟨B.b,i*B.k+j,J⟩=F x->L1 w E T (mb.T.t,i,j) es x
theorem iA.ZiF{w:World}{E:Env}{T T':TK}{es:C (C PV)}{B:sx}(h:iA w E ⟨T,k,es⟩ B)(ht:T'.t=T.t)(hq:∀T1,T'.kd=F T1->∀cs∈es,cs.all UT=N):iA w E ⟨T',k,es⟩ B:=
 ⟨h.k,h.n,h.T.trans ht.symm,h.pos,h.nc,h.cm,h.es,h.nil,h.mem,λT1 hT _ i cs j wz x hi hj gL _=>X (KF (hq T1 hT cs (VU hi)) hj) gL⟩
theorem iA.part{w:World}{E:Env}{mb:MB}{B:sx}(h:iA w E mb B){b:D}(hb:b<=B.n):iA w E ⟨mb.T,mb.k,mb.es.take b⟩ ⟨B.b,B.c,b,B.k,B.T,B.z⟩:=by
 have get:∀{i:D} {cs:C PV},(mb.es.take b)[i]?=F cs->mb.es[i]?=F cs:=λhi=>by
  grind
 refine⟨h.k,?_,h.T,h.pos,Wd hb h.nc,h.cm,λi cs hi=>h.es i cs (get hi),λhz=>?_,λhz=>?_,λT hT hz i cs j es x hi hj gL hc=>h.key T hT hz i cs j es x (get hi) hj gL hc⟩
 ·rw[Wy,Nat.min_eq_left (by rw[<-h.n];omega)]
 ·rw[h.nil hz,List.take_nil]
 ·obtain⟨cells,m1,m2,m3⟩:=h.mem hz
  grind
theorem Lr{T:TK}{es:C (C PV)}{T1:TypeId}(h:(T.sts es).kd=F T1):T.kd=F T1/\∀cs∈es,cs.all UT=true:=by
 obtain⟨h1,h2⟩:=TK.Zdy h
 grind
theorem iA.ZgO{w:World}{E:Env}{mb:MB}{B:sx}(h:iA w E mb B)(hi:0<G mb.es):B.z=false:=by
 cases hz:B.z with
 |false=>rfl
 |true=>rw[h.nil hz]at hi;grind
structure Fs(O:D->Prop)(w0 w:World):Prop where
 os:w.os=w0.os
 tape:w.tape=w0.tape
 output:w.output=w0.output
 size:w0.heap.size<=w.heap.size
 block:∀b,b<w0.heap.size->¬O b->w.heap[b]?=w0.heap[b]?
theorem Fs.refl(O:D->Prop)(w:World):Fs O w w:=⟨rfl,rfl,rfl,VW _,λ_ _ _=>rfl⟩
theorem Fs.trans{O O':D->Prop}{a b c:World}(h:Fs O a b)(k:Fs O' b c)(hO:∀x,x<a.heap.size->O' x->O x):Fs O a c:=
 ⟨k.os.trans h.os,k.tape.trans h.tape,k.output.trans h.output,Wd h.size k.size,λx hx hn=>(k.block x (Wn hx h.size) λh'=>hn (hO x hx h')).trans (h.block x hx hn)⟩
theorem Fs.none{w w':World}(h:Fs (λ_=>False) w w'):Up w w':=⟨h.os,h.tape,h.output,h.size,λb hb=>h.block b hb λh=>h⟩
structure Ok(w0:World)(O:D->Prop)(E:Env)(w:World)(m:Mem):Prop where
 up:Fs O w0 w
 sz:∀b,E.S b->b<w.heap.size
 own:∀l B,E.β l=F B->B.z=R->(O B.b\/w0.heap.size<=B.b)/\B.b<w.heap.size/\¬E.S B.b
 inj:∀l l' B B',E.β l=F B->E.β l'=F B'->B.z=R->B'.z=R->B.b=B'.b->l=l'
 used:∀l,E.used l->l<m.length
 bu:∀l B,E.β l=F B->E.used l
 mem:∀l mb,m[l]?=F (F mb)->∃B,E.β l=F B/\iA w E mb B
 dom:∀l B,E.β l=F B->∃mb,m[l]?=F (F mb)
 JC:DM w0 O
 ow:∀b q,E.ω b q->E.S b/\∀q',E.ω b q'->q'=q
theorem Ok.Znk{w0:World}{O:D->Prop}{E:Env}{w:World}{m:Mem}(h:Ok w0 O E w m){O':D->Prop}(hO:∀b,O' b->O b\/w0.heap.size<=b):DM w O':=by
 obtain⟨T,h1,h2⟩:=h.JC;refine⟨T,λb hb=>⟨Wn (h1 b hb).1 h.up.size,λho=>?_⟩,λw' hw'=>h2 w' λb hb=>(hw' b hb).trans (h.up.block b (h1 b hb).1 (h1 b hb).2)⟩
 grind
theorem cell_of_heap{w w':World}{b o:D}(h:w'.heap[b]?=w.heap[b]?):w'.cell? ⟨b,o,J⟩=w.cell? ⟨b,o,J⟩:=by simp[World.cell?,h]
theorem iA.ext{w w':World}{E E':Env}{mb:MB}{B:sx}(h:iA w E mb B)(hx:Ext w w' E E')(hh:B.z=R->w'.heap[B.b]?=w.heap[B.b]?):iA w' E' mb B:=by
 refine⟨h.k,h.n,h.T,h.pos,h.nc,h.cm,h.es,h.nil,λhz=>?_,λT hT hz i cs j es x hi hj gL hc=>(h.key T hT hz i cs j es x hi hj gL (by rw[<-cell_of_heap (hh hz)];omega)).ext hx⟩
 obtain⟨cells,h1,h2,h3⟩:=h.mem hz;exact⟨cells,(hh hz).trans h1,h2,λi cs j p e e'=>by
  obtain⟨x,a,b,c⟩:=h3 i cs j p e e';exact⟨x,a,b,c.ext hx⟩⟩
def qN(m:Mem)(ν:D)(mb:MB):Mem:=(m++V9 (ν+1-G m) J).set ν (F mb)
theorem GD(m:Mem)(ν:D)(mb:MB):G (qN m ν mb)=max (G m) (ν+1):=by simp[qN];omega
theorem wV(m:Mem)(ν:D)(mb:MB):(qN m ν mb)[ν]?=F (F mb):=by
 unfold qN
 grind
theorem B6{m:Mem}{mb pH:MB}(h:l≠ν):(qN m ν mb)[l]?=F (F pH)↔m[l]?=F (F pH):=by
 unfold qN
 grind
def Env.add(E:Env)(ν:D)(B:sx):Env:={ S:=E.S,β:=λl'=>if l'=ν then F B else E.β l',used:=λl=>l=ν\/E.used l,ω:=E.ω}
theorem Ok.new{w0 w w':World}{O:D->Prop}{E:Env}{m:Mem}(h:Ok w0 O E w m){ν:D}(zr:¬E.used ν)(mb:MB)(B:sx)
 (hos:w'.os=w.os) (Nk:w'.tape=w.tape) (Qh:w'.output=w.output) (BK:w.heap.size<=w'.heap.size) (hh:∀b,b<w.heap.size->w'.heap[b]?=w.heap[b]?)
 (hB:B.z=R->w.heap.size<=B.b/\B.b<w'.heap.size) (hb:Ext w w' E (E.add ν B)->iA w' (E.add ν B) mb B):
 Ok w0 O (E.add ν B) w' (qN m ν mb)/\Ext w w' E (E.add ν B):=by
 have AK:∀{l:D} {B':sx},(E.add ν B).β l=F B'->l≠ν->E.β l=F B':=λph hl=>by simpa[Env.add,hl]using ph
 have new:∀{B':sx},(E.add ν B).β ν=F B'->B'=B:=λph=>by simpa[Env.add,eq_comm]using ph
 have hx:Ext w w' E (E.add ν B):=by
  refine⟨λ_ hb=>hb,λb o hb=>cell_of_heap (hh b (h.sz b hb)),λl B' hl ph=>AK ph (λe=>zr (e▸hl)),λl hl=>.inr hl,λ_ hb=>.inl hb,?_,BK,λb q hq=>⟨hq,hh b (h.sz b (h.ow b q hq).1)⟩,λ_ _ h=>.inl h⟩
  rintro b ⟨l,B',ph,hz,rfl⟩
  by_cases hl:l=ν
  ·grind
  ·exact .inl ⟨l,B',AK ph hl,hz,rfl⟩
 refine⟨⟨⟨hos.trans h.up.os,Nk.trans h.up.tape,Qh.trans h.up.output,Wd h.up.size BK,λk hk hn=>(hh k Y4).trans (h.up.block k hk hn)⟩,
  λb hb=>by have:=h.sz b hb;omega,?_,?_,?_,?_,?_,?_,h.JC,h.ow⟩,hx⟩
 ·intro l B' ph hz
  by_cases hl:l=ν
  ·subst hl
   obtain rfl:=new ph;obtain⟨b1,b2⟩:=hB hz;exact⟨.inr Y4,b2,λhS=>by have:=h.sz _ hS;omega⟩
  ·obtain⟨a,b,d⟩:=h.own l B' (AK ph hl) hz
   exact⟨a,YA,d⟩
 ·intro l l' B1 B2 h1 h2 z1 z2 e
  by_cases hl:l=ν<;>by_cases Sk:l'=ν
  ·omega
  ·have:=(h.own l' B2 (AK h2 Sk) z2).2.1
   grind
  ·have:=(h.own l B1 (AK h1 hl) z1).2.1
   grind
  ·exact h.inj l l' B1 B2 (AK h1 hl) (AK h2 Sk) z1 z2 e
 ·intro l hl
  rw[GD]
  rcases hl with rfl|hl
  ·omega
  ·have:=h.used l hl;omega
 ·intro l B' ph
  by_cases hl:l=ν
  ·exact .inl hl
  ·exact .inr (h.bu l B' (AK ph hl))
 ·intro l pH Gh
  by_cases hl:l=ν
  ·subst hl
   rw[wV]at Gh
   obtain rfl:mb=pH:=by grind
   exact⟨B,by simp[Env.add],hb hx⟩
  ·rw[B6 hl]at Gh
   obtain⟨B',ph,Ex⟩:=h.mem l pH Gh;exact⟨B',by simpa[Env.add,hl]using ph,Ex.ext hx λhz=>hh _ (h.own l B' ph hz).2.1⟩
 ·intro l B' ph
  by_cases hl:l=ν
  ·subst hl;exact⟨mb,wV _ _ _⟩
  ·obtain⟨pH,Gh⟩:=h.dom l B' (AK ph hl)
   exact⟨pH,(B6 hl).2 Gh⟩
theorem Ok.put{w0 w w':World}{O:D->Prop}{E:Env}{m:Mem}(h:Ok w0 O E w m){B:sx}(hB:E.β l=F B)(hz:B.z=R)(mb:MB)
 (hos:w'.os=w.os) (Nk:w'.tape=w.tape) (Qh:w'.output=w.output) (BK:w'.heap.size=w.heap.size) (hh:∀b,b≠B.b->w'.heap[b]?=w.heap[b]?)
 (hb:Ext w w' E E->iA w' E mb B):Ok w0 O E w' (m.set l (F mb))/\Ext w w' E E:=by
 obtain⟨o1,o2,o3⟩:=h.own l B hB hz;have hx:Ext w w' E E:=⟨λ_ hb=>hb,λb o hb=>cell_of_heap (hh b (λe=>o3 (e▸hb))),λ_ _ _ h=>h,λ_ h=>h,λ_ hb=>.inl hb,λ_ hb=>.inl hb,YA,λb q hq=>⟨hq,hh b (λe=>o3 (e▸(h.ow b q hq).1))⟩,λ_ _ h=>.inl h⟩
 have Ia:=h.used l (h.bu l B hB);refine⟨⟨⟨hos.trans h.up.os,Nk.trans h.up.tape,Qh.trans h.up.output,by rw[BK];exact h.up.size,λk hk hn=>(hh k (λe=>by
  grind)).trans (h.up.block k hk hn)⟩,
  λb hb=>by rw[BK];exact h.sz b hb,λl' B' ph xB=>by rw[BK];exact h.own l' B' ph xB,h.inj,λl' Sk=>by rw[Xd];exact h.used l' Sk,h.bu,?_,?_,h.JC,h.ow⟩,hx⟩
 ·intro l' pH Gh
  by_cases hl:l'=l
  ·grind
  ·rw[WB (λe=>hl e.symm)]at Gh
   obtain⟨B',ph,Ex⟩:=h.mem l' pH Gh;exact⟨B',ph,Ex.ext hx λxB=>hh _ (λe=>hl (h.inj l' l B' B ph hB xB hz e))⟩
 ·intro l' B' ph
  by_cases hl:l'=l
  ·simp_all
  ·obtain⟨pH,Gh⟩:=h.dom l' B' ph
   grind
def Env.move(E:Env)(l ν:D)(B:sx):Env:={ S:=E.S,β:=λi=>if i=ν then F B else if i=l then J else E.β i,used:=λi=>i=ν\/E.used i,ω:=E.ω}
theorem Ok.move{w0 w w':World}{O:D->Prop}{E:Env}{m:Mem}(h:Ok w0 O E w m){ν:D}(zr:¬E.used ν){l:D}{B:sx}(hB:E.β l=F B)(mb:MB)(B':sx)
 (hos:w'.os=w.os) (Nk:w'.tape=w.tape) (Qh:w'.output=w.output) (BK:w.heap.size<=w'.heap.size) (hh:∀b,b<w.heap.size->(B.z=R->b≠B.b)->w'.heap[b]?=w.heap[b]?)
 (ph:B'.z=R->(B.z=R/\B'.b=B.b)\/w.heap.size<=B'.b) (bD:B'.z=R->B'.b<w'.heap.size) (hb:Ext w w' E (E.move l ν B')->iA w' (E.move l ν B') mb B'):
 Ok w0 O (E.move l ν B') w' (qN (m.set l J) ν mb)/\Ext w w' E (E.move l ν B'):=by
 have hlu:=h.bu l B hB;have AK:∀{i:D} {B1:sx},(E.move l ν B').β i=F B1->i≠ν->i≠l/\E.β i=F B1:=by
  intro i B1 Au hi;simp only[Env.move]at Au
  grind
 have new:∀{B1:sx},(E.move l ν B').β ν=F B1->B1=B':=λAu=>by simpa[Env.move,eq_comm]using Au
 have IP:∀b,E.S b->w'.heap[b]?=w.heap[b]?:=λb hb=>hh b (h.sz b hb) (λhz e=>(h.own l B hB hz).2.2 (e▸hb))
 have hx:Ext w w' E (E.move l ν B'):=
  ⟨λ_ hb=>hb,λb o hb=>cell_of_heap (IP b hb),λi B1 hi Au=>(AK Au (λe=>zr (e▸hi))).2,λ_ hl=>.inr hl,λ_ hb=>.inl hb,λb ho=>by
   obtain⟨i,B1,Au,hz,rfl⟩:=ho
   by_cases hi:i=ν
   ·subst hi
    obtain rfl:=new Au
    rcases ph hz with⟨e1,e'⟩ |e'
    ·exact .inl ⟨l,B,hB,e1,e'.symm⟩
    omega
   ·exact .inl ⟨i,B1,(AK Au hi).2,hz,rfl⟩,BK,λb q hq=>⟨hq,IP b (h.ow b q hq).1⟩,λ_ _ h=>.inl h⟩
 have apart:∀i B1,E.β i=F B1->i≠l->B1.z=R->B'.z=R->B1.b≠B'.b:=by
  intro i B1 Au hi hz xB e
  rcases ph xB with⟨e1,e'⟩ |e'
  ·exact hi (h.inj i l B1 B Au hB hz e1 (e.trans e'))
  ·have:=(h.own i B1 Au hz).2.1;omega
 refine⟨⟨⟨hos.trans h.up.os,Nk.trans h.up.tape,Qh.trans h.up.output,Wd h.up.size BK,λk hk hn=>(hh k Y4 (λhz e=>by
  rcases(h.own l B hB hz).1 with o1|o1
  all_goals grind)).trans (h.up.block k hk hn)⟩,
  λb hb=>by have:=h.sz b hb;omega,?_,?_,?_,?_,?_,?_,h.JC,h.ow⟩,hx⟩
 ·intro i B1 Au hz
  by_cases hi:i=ν
  ·subst hi
   obtain rfl:=new Au;refine⟨?_,bD hz,?_⟩
   ·rcases ph hz with⟨e1,e'⟩ |e'
    ·rw[e'];exact(h.own l B hB e1).1
    ·exact .inr Y4
   ·intro hS
    rcases ph hz with⟨e1,e'⟩ |e'
    ·rw[e']at hS;exact(h.own l B hB e1).2.2 hS
    ·have:=h.sz _ hS;omega
  ·obtain⟨_,h2⟩:=AK Au hi
   obtain⟨a,b,d⟩:=h.own i B1 h2 hz;exact⟨a,YA,d⟩
 ·intro i i' B1 B2 h1 h2 z1 z2 e
  by_cases hi:i=ν<;>by_cases od:i'=ν
  ·omega
  ·grind
  ·grind
  ·exact h.inj i i' B1 B2 (AK h1 hi).2 (AK h2 od).2 z1 z2 e
 ·intro i hi
  rw[GD,Xd]
  rcases hi with rfl|hi
  ·omega
  ·have:=h.used i hi;omega
 ·intro i B1 Au
  by_cases hi:i=ν
  ·exact .inl hi
  ·exact .inr (h.bu i B1 (AK Au hi).2)
 ·intro i pH Gh
  by_cases hi:i=ν
  ·subst hi
   rw[wV]at Gh
   have e:mb=pH:=by simp_all
   subst e;exact⟨B',by simp[Env.move],hb hx⟩
  ·rw[B6 hi]at Gh
   have CA:i≠l:=by
    grind
   rw[WB (λe=>CA e.symm)]at Gh
   obtain⟨B1,Au,qV⟩:=h.mem i pH Gh;refine⟨B1,by simp[Env.move,hi,CA,Au],qV.ext hx λhz=>hh _ (h.own i B1 Au hz).2.1 (λxB e=>CA (h.inj i l B1 B Au hB hz xB e))⟩
 ·intro i B1 Au
  by_cases hi:i=ν
  ·subst hi;exact⟨mb,wV _ _ _⟩
  ·obtain⟨h3,h4⟩:=AK Au hi
   obtain⟨pH,Gh⟩:=h.dom i B1 h4;refine⟨pH,(B6 hi).2 ?_⟩
   grind
theorem Ok.drew{w0 w:World}{O:D->Prop}{E:Env}{m:Mem}(h:Ok w0 O E w m)(n:D):Ok w0 O E (w.drewN n) m/\Ext w (w.drewN n) E E:=by
 have hx:Ext w (w.drewN n) E E:=⟨λ_ h=>h,λ_ _ _=>rfl,λ_ _ _ h=>h,λ_ h=>h,λ_ h=>.inl h,λ_ h=>.inl h,VW _,λ_ _ h=>⟨h,rfl⟩,λ_ _ h=>.inl h⟩
 exact⟨⟨⟨h.up.os,h.up.tape,h.up.output,h.up.size,h.up.block⟩,h.sz,h.own,h.inj,h.used,h.bu,λl mb hm=>by obtain⟨B,hB,hb⟩:=h.mem l mb hm;exact⟨B,hB,hb.ext hx λ_=>rfl⟩,h.dom,h.JC,h.ow⟩,hx⟩
def ZaA(cs:M Value):Bool:=cs.toList.all (·.oneCell')
def ZfG:Value->PV
 |.agg cs=>if ZaA cs then .ag (cs.toList.map .v)else .un
 |.tuple _=>.un
 |x=>.v x
def iy(t:C PV):Operand->PV
 |.tmp i=>t.getD i .un
 |.const x=>ZfG x
 |.func f=>.v (.func (.func f) #[] #[])
 |.global _=>.un
def ue(w:World)(E:Env)(t:C PV)(tm:M Value):Prop:=tm.size=G t/\∀i p,t[i]?=F p->eC w E p (tm.getD i Zj)
section
variable {w:World} {O:D->Prop} {E:Env} {w0:World} {m:Mem}
theorem eC.un'(x:Value):eC w E .un x:=.c (.un x)
theorem eC.jw{a x:Value}(h:eC w E (.v a) x):x=a/\a.oneCell'=true:=by
 cases h with
 |c h=>cases h with|v _ h=>simp_all
theorem eC.uk{es:C (C PV)}(h:eC w E (.sl es) x):eO w E.S (.sl es) x:=by cases h with|c h=>exact h
theorem eC.Rp{cs:C PV}(h:eC w E (.rp cs) x):eO w E.S (.rp cs) x:=by cases h with|c h=>exact h
theorem eC.si{cs:C PV}(h:eC w E (.ag cs) x):∃vs:M Value,x=.agg vs/\vs.size=G cs/\(∀(j:D) (x:Value),vs[j]?=F x->x.oneCell'=N)/\∀(j:D) (p:PV) (x:Value),cs[j]?=F p->vs[j]?=F x->eC w E p x:=by
 cases h with
 |c h=>cases h
 |ag _ vs hl h1 hr=>grind
theorem eC.AX{ps:C PV}(h:eC w E (.tu ps) x):∃vs:M Value,x=.tuple vs/\vs.size=G ps/\∀(j:D) (p:PV) (x:Value),ps[j]?=F p->vs[j]?=F x->eC w E p x:=by
 cases h with
 |c h=>cases h
 |tu _ vs hl hr=>grind
theorem eC.vp(hk:Ok w0 O E w m){mb:MB}(hm:m[l]?=F (F mb))(h:eC w E (.ms l) x):∃B,E.β l=F B/\iA w E mb B/\x=B.sv:=by
 obtain⟨B,hB,hb⟩:=hk.mem l mb hm
 cases h with
 |c h=>cases h
 |ms _ _ _ _ h=>simp_all
theorem eC.DF(hk:Ok w0 O E w m){l a b:D}{mb:MB}(hm:m[l]?=F (F mb))(h:eC w E (.ss l a b) x):∃B,E.β l=F B/\iA w E mb B/\
 ∃A c,x=.slice A (b-a) c/\a<=b/\b<=B.n/\(a<b->B.z=R/\A=F ⟨B.b,a*B.k,J⟩/\b-a<=c/\c<=maxLen):=by
 obtain⟨B,hB,hb⟩:=hk.mem l mb hm
 cases h with
 |c h=>cases h
 |ss _ _ _ _ _ _ h=>simp_all
theorem eC.S9(hk:Ok w0 O E w m){l b:D}{mb:MB}(hm:m[l]?=F (F mb))(h:eC w E (.ss l 0 b) x):∃B,E.β l=F B/\iA w E mb B/\b<=B.n/\(B.z=R->x=.slice (F ⟨B.b,0,J⟩) b B.c)/\∃A c,x=.slice A b c:=by
 obtain⟨B,hB,hb⟩:=hk.mem l mb hm
 cases h with
 |c h=>cases h
 |ss _ _ _ _ _ _ h=>
  grind
theorem eC.FA(hk:Ok w0 O E w m){l i o:D}{mb:MB}(hm:m[l]?=F (F mb))(h:eC w E (.be l i o) x):∃B,E.β l=F B/\iA w E mb B/\B.z=R/\x=.pointer (F ⟨B.b,i*B.k+o,J⟩):=by
 obtain⟨B,hB,hb⟩:=hk.mem l mb hm
 cases h with
 |c h=>cases h
 |be _ _ _ _ _ _ h=>simp_all
theorem eC.Kd{f:FuncId}{cs:C PV}(h:eC w E (.fn f cs) x):∃vs:M Value,x=.func (.func f) #[] vs/\vs.size=G cs/\∀(j:D) (p:PV) (x:Value),cs[j]?=F p->vs[j]?=F x->eC w E p x:=by
 cases h with
 |c h=>cases h with
  |fn _ _ vs hl hr=>exact⟨vs,rfl,hl,λj p x hp hx=>.c (hr j p x hp hx)⟩
 |fn _ _ vs hl hr=>grind
theorem nT(hk:Ok w0 O E w m){mb:MB}(hm:m[l]?=F (F mb)):E.used l:=by
 obtain⟨B,hB,_⟩:=hk.mem l mb hm;exact hk.bu l B hB
theorem Om(x:Value):eC w E (ZfG x) x:=by
 unfold ZfG
 split
 ·rename_i cs
  split
  ·rename_i h
   have wi:∀v∈cs.toList,v.oneCell'=true:=by simp only[ZaA,VZ]at h;exact h
   refine .ag _ _ YE (λj x hx=>wi x YD) λj p x hp hx=>?_
   have e:p=.v x:=by simp_all
   subst e;exact .c (.v x (wi x YD))
  ·exact .un' _
 ·exact .un' _
 ·rename_i h1 h2
  refine .c (.v x ?_)
  cases x<;>simp_all[Value.oneCell']
theorem BC{t:C PV}{a:Act}(h:ue w E t a.tmps)(o:Operand):eC w E (iy t o) (a.eval o):=by
 cases o with
 |tmp i=>
  simp only[iy,Act.eval]
  rcases Wu i (G t) with hi|hi
  ·have:=h.2 i _ (Z hi)
   simp_all
  ·have e:t.getD i .un=.un:=by simp_all
   rw[e];exact .un' _
 |const x=>exact Om x
 |global g=>exact .un' _
 |func f=>exact .c (.v _ rfl)
def pc:PV->L (C PV)
 |.ag cs=>F cs
 |.v x=>F [.v x]
 |.sl es=>F [.sl es]
 |.rp cs=>F [.rp cs]
 |.ms l=>F [.ms l]
 |.ss l a b=>F [.ss l a b]
 |.be l i o=>F [.be l i o]
 |.fn f cs=>F [.fn f cs]
 |_=>J
theorem cells_one(h:x.oneCell'=N):x.cells=#[x]:=by cases x<;>simp_all[Value.oneCell',Value.cells]
theorem eO.one{S:D->Prop}{p:PV}(h:eO w S p x)(h1:p≠.ud)(h2:p≠.un):x.oneCell'=true:=by
 cases h<;>first|rfl|assumption|contradiction
theorem KZ{p:PV}(h:eC w E p x){cs:C PV}(hp:pc p=F cs):x.cells.size=G cs/\∀(j:D) (q:PV),cs[j]?=F q->∃y,x.cells[j]?=F y/\y.oneCell'=N/\eC w E q y:=by
 have one:x.oneCell'=N->cs=[p]->x.cells.size=G cs/\∀(j:D) (q:PV),cs[j]?=F q->∃y,x.cells[j]?=F y/\y.oneCell'=N/\eC w E q y:=by
  intro h1 e;subst e;rw[cells_one h1]
  grind
 cases h with
 |c h=>
  cases h with
  |v _ h1=>exact one h1 YP
  |ud=>simp[pc]at hp
  |un=>simp[pc]at hp
  |nil A c=>exact one rfl YP
  |sl=>exact one rfl YP
  |rp=>exact one rfl YP
  |fn=>exact one rfl YP
 |ms l _ hl h1=>exact one h1 YP
 |ss l a b _ hl h1=>exact one h1 YP
 |fn=>exact one rfl YP
 |be l i o _ hl h1=>exact one h1 YP
 |ag rW vs hl h1 hr=>
  obtain rfl:rW=cs:=by simpa[pc]using hp
  refine⟨hl,λj q hq=>?_⟩
  have hj:j<vs.size:=by grind
  exact⟨vs[j],V4 hj,h1 j _ (V4 hj),hr j q _ hq (V4 hj)⟩
 |tu=>simp[pc]at hp
def PG(m:Mem):PV->L (C PV)
 |.be l i o=>match m[l]? with
  |some (F mb)=>(mb.es[i]?).map (·.drop o)
  |_=>J
 |.rp cs=>F cs
 |_=>J
theorem SQ(hk:Ok w0 O E w m){p:PV}(h:eC w E p x){cs:C PV}(hp:PG m p=F cs):
 ∃b off,x=.pointer (F ⟨b,off,J⟩)/\b<w.heap.size/\∀(j:D) (q:PV),cs[j]?=F q->∃y,w.cell? ⟨b,off+j,J⟩=F y/\y.oneCell'=N/\eC w E q y:=by
 cases p with
 |be l i o=>
  simp only[PG]at hp
  split at hp
  ·rename_i mb hm
   obtain⟨B,hB,hb,hz,rfl⟩:=h.FA hk hm;obtain⟨rW,Zj3,rfl⟩:=Wc.1 hp;refine⟨B.b,_,rfl,(hk.own l B hB hz).2.1,λj q hq=>?_⟩
   obtain⟨cells,h1,h2,h3⟩:=hb.mem hz;rw[List.getElem?_drop]at hq
   obtain⟨y,a,b,c⟩:=h3 i rW (o+j) q Zj3 hq;exact⟨y,by rw[cell_of_row w B.b _ cells B.T (0,0) h1,XU];exact a,b,c⟩
  simp_all
 |rp rW=>
  obtain rfl:rW=cs:=by simpa[PG]using hp
  cases h.Rp with
  |rp _ b off u hS hc h1 hr=>exact⟨b,off,rfl,hk.sz b hS,λj q hq=>⟨u j,hc j q hq,h1 j q hq,.c (hr j q hq)⟩⟩
 |_=>simp[PG]at hp
def HY:TypeDesc->Bool
 |.struct _|.array _ _=>N
 |_=>R
theorem uX{P:Program}(h:P.underlying t=F d)(w:World):(isAgg t).run P w=.ok (HY d) w:=by
 unfold isAgg;rw[Sem.run_bind,run_underlying h w]
 cases d<;>simp[HY]
theorem Kq{P:Program}(h:P.underlying t=F d):∃i,P.info? t=F i/\i.size=P.cellsOf t/\i.bytes=P.bytesOf t:=by
 unfold Program.underlying at h
 cases hi:P.info? t with
 |none=>simp_all
 |some i=>exact⟨i,rfl,by simp[Program.cellsOf,hi],by simp[Program.bytesOf,hi]⟩
theorem lu{P:Program}(h:0<P.cellsOf t):∃i,P.info? t=F i/\i.size=P.cellsOf t:=by
 unfold Program.cellsOf at *
 cases hi:P.info? t with
 |none=>simp_all
 |some i=>simp
theorem run_sizeOf{P:Program}{i:TypeInfo}(h:P.info? t=F i)(w:World):(sizeOf t).run P w=.ok i.size w:=by
 simp[sizeOf,typeInfo,h]
def uw(P:Program)(T:TypeId)(cs:L (C PV))(K:PV->Prop):Prop:=
 match P.underlying T,cs with
 |some d,F cs=>match HY d with
  |true=>P.cellsOf T<=G cs/\K (.ag (cs.take (P.cellsOf T)))
  |false=>match cs with
   |c::_=>K c
   | []=>False
 |_,_=>False
theorem I9{P:Program}{cs:C PV}{K:PV->Prop}(h:uw P T (F cs) K){b off:D}(hb:b<w.heap.size)
 (hc:∀(j:D) (q:PV),cs[j]?=F q->∃y,w.cell? ⟨b,off+j,J⟩=F y/\y.oneCell'=N/\eC w E q y):
 ∃p x,K p/\(∀w',Up w w'->(loadVar T ⟨b,off,J⟩).run P w'=.ok x w')/\eC w E p x:=by
 unfold uw at h
 split at h
 ·rename_i d rW hd tv
  obtain rfl:cs=rW:=by simp_all
  obtain⟨i,hi,hs,_⟩:=Kq hd
  split at h
  ·rename_i D4
   obtain⟨hle,hK⟩:=h;have hex:∀j:Fin (P.cellsOf T),∃y,w.cell? ⟨b,off+j,J⟩=F y/\y.oneCell'=N/\∀q,cs[j.1]?=F q->eC w E q y:=by
    intro j;have hj:j.1<G cs:=YA
    simp_all
   obtain⟨f,hf⟩:=Classical.axiomOfChoice hex;refine⟨_,.agg (Array.ofFn f),hK,λw' hu=>?_,?_⟩
   ·have hl:(loadCells ⟨b,off,J⟩ (G (XD f))).run P w'=.ok (XD f).toArray w':=run_loadCells_list (P:=P) w' _ (XD f) λj v hv=>by
     have hj:j<P.cellsOf T:=by grind
     have e:(⟨b,off,J⟩:Addr).add j=⟨b,off+j,J⟩:=by unfold Addr.add;simp
     rw[e,hu.cell (p:=⟨b,off+j,J⟩) hb,(hf ⟨j,hj⟩).1]
     simp_all
    simp only[List.length_ofFn]at hl
    have e2:(XD f).toArray=Array.ofFn f:=by simp
    rw[e2]at hl
    simp[loadVar,uX hd,D4,run_sizeOf hi,hs,hl]
   ·refine .ag _ _ YG (λj x hx=>?_) λj p x hp hx=>?_
    ·have hj:j<P.cellsOf T:=by have:=(V6.1 hx).1;simp_all
     have:f ⟨j,hj⟩=x:=by simp_all
     grind
    ·have hj:j<P.cellsOf T:=by grind
     have:f ⟨j,hj⟩=x:=by simp_all
     grind
  ·rename_i D4
   split at h
   ·rename_i c rW
    obtain⟨y,h1,h2,h3⟩:=hc 0 c rfl;refine⟨c,y,h,λw' hu=>?_,h3⟩
    have LH:w'.cell? ⟨b,off,J⟩=F y:=(hu.cell (p:=⟨b,off,J⟩) hb).trans h1;simp[loadVar,uX hd,D4,LH]
   simp_all
 simp_all
theorem QR{P:Program}{cs:C PV}{K:PV->Prop}(h:uw P T (F (cs.drop off)) K){vs:M Value}(hl:vs.size=G cs)
 (h1:∀(j:D) (x:Value),vs[j]?=F x->x.oneCell'=N) (hr:∀(j:D) (p:PV) (x:Value),cs[j]?=F p->vs[j]?=F x->eC w E p x):
 ∃p x,K p/\(∀w',(part T vs off).run P w'=.ok x w')/\eC w E p x:=by
 unfold uw at h
 split at h
 ·rename_i d rW hd tv
  obtain rfl:cs.drop off=rW:=by simp_all
  obtain⟨i,hi,hs,_⟩:=Kq hd
  split at h
  ·rename_i D4
   obtain⟨hle,hK⟩:=h;rw[List.length_drop]at hle
   refine⟨_,.agg (vs.extract off (off+P.cellsOf T)),hK,λw'=>?_,?_⟩
   ·simp[part,uX hd,D4,run_sizeOf hi,hs]
   ·refine .ag _ _ YD (λj x hx=>?_) λj p x hp hx=>?_
    ·rw[Array.getElem?_extract]at hx
     grind
    grind
  ·rename_i D4
   split at h
   ·rename_i c rW Zj3
    have hc:cs[off]?=F c:=by
     have:(cs.drop off)[0]?=F c:=by simp_all
     grind
    have ho:off<vs.size:=by grind
    refine⟨c,vs[off],h,λw'=>?_,hr off c _ hc (V4 ho)⟩
    simp[part,uX hd,D4,V4 ho]
   simp_all
 simp_all
end
def ee(a b:V):Bool:=Zg (a.size+b.size<=9223372036854775807)
def tf(a b:V):Bool:=Op.bytesLess a.toList b.toList
def Rs(a b:V):Bool:=Op.bytesLess a.toList b.toList ||a.toList==b.toList
theorem Int.FD(a b:Int):(a==b)=Zg (a=b):=rfl
theorem baL(a b:V):(a.toList=b.toList)=(a=b):=by
 obtain⟨⟨x⟩⟩:=a;obtain⟨⟨y⟩⟩:=b;simp
theorem baB(a b:V):(a.toList==b.toList)=Zg (a=b):=by
 rw[Bool.eq_iff_iff,beq_iff_eq,baL,decide_eq_true_eq]
def Zd8(P:Program)(op:BinOp)(T:TypeId):Value->Value->L Value
 |.int k a,.int k' b=>
  match op with
  |.shl=>if 0<=b then F (.int k (k.wrap (a*2 ^ (min b.toNat k.bits))))else J
  |.shr=>if 0<=b then F (.int k (a.fdiv (2 ^ (min b.toNat k.bits))))else J
  |.add=>if k=k' then F (.int k (k.wrap (a+b)))else J
  |.sub=>if k=k' then F (.int k (k.wrap (a-b)))else J
  |.mul=>if k=k' then F (.int k (k.wrap (a*b)))else J
  |.quo=>if k=k'/\b≠0 then F (.int k (k.wrap (a.tdiv b)))else J
  |.rem=>if k=k'/\b≠0 then F (.int k (a.tmod b))else J
  |.and=>if k=k' then F (.int k (k.wrap (Wf k.bits a &&& Wf k.bits b).toNat))else J
  |.or=>if k=k' then F (.int k (k.wrap (Wf k.bits a |||Wf k.bits b).toNat))else J
  |.xor=>if k=k' then F (.int k (k.wrap (Wf k.bits a ^^^ Wf k.bits b).toNat))else J
  |.eql=>if k=k' then F (.bool (Zg (a=b)))else J
  |.neq=>if k=k' then F (.bool (!decide (a=b)))else J
  |.lss=>if k=k' then F (.bool (Zg (a<b)))else J
  |.leq=>if k=k' then F (.bool (Zg (a<=b)))else J
  |.gtr=>if k=k' then F (.bool (Zg (b<a)))else J
  |.geq=>if k=k' then F (.bool (Zg (b<=a)))else J
  |_=>J
 |.string a,.string b=>
  match op with
  |.add=>if ee a b=N then F (.string (a++b))else J
  |.eql=>F (.bool (Zg (a=b)))
  |.neq=>F (.bool !decide (a=b))
  |.lss=>F (.bool (tf a b))
  |.leq=>F (.bool (Rs a b))
  |.gtr=>F (.bool !Rs a b)
  |.geq=>F (.bool !tf a b)
  |_=>J
 |.bool a,.bool b=>match P.underlying T with
  |some .bool=>match op with
   |.eql=>F (.bool (a==b))
   |.neq=>F (.bool !(a==b))
   |_=>J
  |_=>J
 |_,_=>J
theorem Mm{P:Program}{x y:Operand}{a b r:Value}(h:Zd8 P op T a b=F r)(w:World):
 ((do eqGuard op T x y a b;binOp op T a b:Sem Value).run P w)=.ok r w/\r.oneCell'=true:=by
 unfold Zd8 at h
 split at h
 ·rename_i k a k' b
  cases op<;>simp only[WZ,Y,reduceCtorEq]at h
  all_goals first
   |(obtain⟨⟨rfl,h0⟩,rfl⟩:=h;simp[eqGuard,binOp,Op.intDiv,h0,Value.oneCell'])
   |(obtain⟨rfl,rfl⟩:=h;simp[eqGuard,binOp,Op.intArith,Op.intBits,Op.intCmp,Value.oneCell',bne];done)
   |(obtain⟨rfl,rfl⟩:=h;exact⟨by simp[eqGuard,binOp,Op.intCmp,bne,Int.FD],rfl⟩)
   |(obtain⟨h0,rfl⟩:=h
     have h1:¬b<0:=YA;simp[eqGuard,binOp,Op.shift,h1,Value.oneCell'])
 ·rename_i a b
  cases op<;>simp only[WZ,Y,reduceCtorEq]at h
  all_goals first
   |(subst h;simp[eqGuard,binOp,Op.stringOp,Value.oneCell',tf,Rs,baB];done)
   |(obtain⟨h0,rfl⟩:=h
     have h0:a.size+b.size<=9223372036854775807:=Yu h0;simp only[eqGuard,binOp,Op.stringOp];simp[Value.oneCell'];omega)
 ·rename_i a b
  split at h
  ·rename_i hu
   cases op<;>simp only[Y,reduceCtorEq]at h
   all_goals(subst h;simp[eqGuard,binOp,Op.equal,Op.maxDepth,run_equalIn_bool' w _ _ _ _ hu,Value.oneCell'])
  grind
 grind
def F2(P:Program):D->TypeId->C PV->C PV->L Bool
 |0,_,_,_=>J
 |d+1,T,cs,ds=>
  match P.underlying T with
  |some .bool=>match cs,ds with
   |.v (.bool a)::_,.v (.bool b)::_=>F (a==b)
   |_,_=>J
  |some (.int _)=>match cs,ds with
   |.v (.int k a)::_,.v (.int k' b)::_=>if k=k' then F (a==b)else J
   |_,_=>J
  |some .string=>match cs,ds with
   |.v (.string a)::_,.v (.string b)::_=>F (a.toList==b.toList)
   |_,_=>J
  |some (.struct _)=>if P.stoodInHeld T then J else
   (P.fieldsOf T).toList.foldr (λf acc => if f.name = "_" then J else match F2 P d f.type ((cs.drop f.offset).take (P.cellsOf f.type)) ((ds.drop f.offset).take (P.cellsOf f.type)), acc with
    |some r,F s=>F (r&&s)
    |_,_=>J) (F N)
  |_=>J
section
variable {w:World} {O:D->Prop} {E:Env} {w0:World} {m:Mem} {P:Program}
def yd(w:World)(E:Env)(P:Program)(T:TypeId)(cs:C PV)(x:Value):Prop:=
 ∀d,P.underlying T=F d->(HY d=N->∃vs:M Value,x=.agg vs/\∀(j:D) (p:PV),cs[j]?=F p->∃v,vs[j]?=F v/\eC w E p v)/\(HY d=R->∀p,cs[0]?=F p->eC w E p x)
theorem Sd:∀(d:D) (T:TypeId) (cs ds:C PV) (x y:Value) (r:Bool),F2 P d T cs ds=F r->yd w E P T cs x->yd w E P T ds y->∀w':World,(Op.equalIn d T x y).run P w'=.ok r w'
 |0,_,_,_,_,_,_,h,_,_,_=>by simp[F2]at h
 |d+1,T,cs,ds,x,y,r,h,hx,hy,w'=>by
  unfold F2 at h
  split at h
  ·rename_i hu
   split at h
   ·rename_i a _ b _
    have h1:=((hx _ hu).2 rfl _ rfl).jw.1;have h2:=((hy _ hu).2 rfl _ rfl).jw.1;subst h1 h2;simp only[Y]at h
    subst h;exact run_equalIn_bool' w' _ _ _ _ hu
   grind
  ·rename_i k0 hu
   split at h
   ·rename_i k a _ k' b _
    simp only[WZ,Y]at h
    obtain⟨rfl,rfl⟩:=h;have h1:=((hx _ hu).2 rfl _ rfl).jw.1;have h2:=((hy _ hu).2 rfl _ rfl).jw.1;subst h1 h2;simp[Op.equalIn,run_underlying hu]
   grind
  ·rename_i hu
   split at h
   ·rename_i a _ b _
    have h1:=((hx _ hu).2 rfl _ rfl).jw.1;have h2:=((hy _ hu).2 rfl _ rfl).jw.1;subst h1 h2;simp only[Y]at h
    subst h;exact run_equalIn_string w' _ _ _ _ hu
   grind
  ·rename_i fs hu
   simp only[X3]at h
   obtain⟨tV,h⟩:=h;have Zmy:P.stoodInHeld T=false:=by simp_all
   obtain⟨vs,rfl,hvs⟩:=(hx _ hu).1 rfl;obtain⟨us,rfl,hus⟩:=(hy _ hu).1 rfl;have hf:P.fieldsOf T=fs:=by simp[Program.fieldsOf,hu]
   rw[run_equalIn_struct w' d T vs us YG Zmy,hf];rw[hf]at h
   generalize fs.toList=l at h
   clear hu hf
   induction l generalizing r with
   |nil=>simp only[List.foldr_nil,Y]at h;subst h;rfl
   |cons f l ih=>
    simp only[List.foldr_cons,X3]at h
    obtain⟨hn,h⟩:=h
    split at h
    ·rename_i r1 r2 h1 h2
     simp only[Y]at h
     subst h;have SJ:∀{zs:M Value} {es:C PV},(∀(j:D) (p:PV),es[j]?=F p->∃v,zs[j]?=F v/\eC w E p v)->((es.drop f.offset).take (P.cellsOf f.type))≠[]\/(∃fs,P.underlying f.type=F (.struct fs))->
      (∃dd,P.underlying f.type=F dd)->∃z,(part f.type zs f.offset).run P w'=.ok z w'/\yd w E P f.type ((es.drop f.offset).take (P.cellsOf f.type)) z:=by
      intro zs es hz gL ⟨dd,hd⟩;obtain⟨i,hi,hs,_⟩:=Kq hd
      cases D4:HY dd with
      |true=>
       refine⟨.agg (zs.extract f.offset (f.offset+P.cellsOf f.type)),by simp[part,uX hd,D4,run_sizeOf hi,hs],?_⟩
       intro d' Cy
       grind
      |false=>
       have Zkj:((es.drop f.offset).take (P.cellsOf f.type))≠[]:=by
        rcases gL with h|⟨fs,h⟩
        ·exact h
        ·rw[hd]at h;cases h;simp[HY]at D4
       obtain⟨p,hp⟩:∃p,((es.drop f.offset).take (P.cellsOf f.type))[0]?=F p:=by
        cases hq:((es.drop f.offset).take (P.cellsOf f.type))with
        |nil=>simp_all
        |cons a _=>simp
       have hp':es[f.offset]?=F p:=by
        grind
       obtain⟨v,h1,h2⟩:=hz _ p hp';refine⟨v,by simp[part,uX hd,D4,h1],?_⟩
       intro d' Cy
       simp_all
     have Km:(((cs.drop f.offset).take (P.cellsOf f.type))≠[]\/(∃fs,P.underlying f.type=F (.struct fs)))/\(((ds.drop f.offset).take (P.cellsOf f.type))≠[]\/(∃fs,P.underlying f.type=F (.struct fs)))/\∃dd,P.underlying f.type=F dd:=by
      cases d with
      |zero=>simp[F2]at h1
      |succ d=>
       unfold F2 at h1
       grind
     obtain⟨a,ha,hac⟩:=SJ hvs Km.1 Km.2.2;obtain⟨b,hb,hbc⟩:=SJ hus Km.2.1 Km.2.2;have hr:=Sd d f.type _ _ a b r1 h1 hac hbc w';simp only[Op.eqFields,hn,ne_eq,not_false_eq_true,if_true,Sem.run_bind,ha,hb,hr,Result.andThen_ok,Sem.run_ite]
     cases r1 with
     |true=>simp_all
     |false=>simp
    grind
  grind
def KH(o:L Value)(K:PV->Prop):Prop:=match o with
 |some r=>K (.v r)
 |none=>False
def ya(P:Program)(op:BinOp)(T:TypeId)(cs ds:C PV)(K:PV->Prop):Prop:=P.eqGuardType P.depth T=R/\match P.underlying T,F2 P 10000 T cs ds with
    |some (.struct _),F r=>match op with
     |.eql=>K (.v (.bool r))
     |.neq=>K (.v (.bool !r))
     |_=>False
    |_,_=>False
def Oa(P:Program)(op:BinOp)(T:TypeId)(x y:PV)(K:PV->Prop):Prop:=
 match x,y with
 |.v a,.v b=>KH (Zd8 P op T a b) K
 |.ag cs,.ag ds=>ya P op T cs ds K
 |_,_=>False
theorem QM{ox oy:Operand}{p q:PV}(hx:eC w E p x)(hy:eC w E q y){K:PV->Prop}(h:Oa P op T p q K):
 ∃r v,K r/\(∀w',((do eqGuard op T ox oy x y;binOp op T x y:Sem Value).run P w')=.ok v w')/\eC w E r v:=by
 unfold Oa at h
 split at h
 ·rename_i a b
  obtain⟨rfl,_⟩:=hx.jw;obtain⟨rfl,_⟩:=hy.jw;unfold KH at h
  split at h
  ·rename_i r hr
   exact⟨_,r,h,λw'=>(Mm hr w').1,.c (.v r (Mm (x:=ox) (y:=oy) hr w).2)⟩
  simp_all
 ·rename_i cs ds
  obtain⟨hg,h⟩:=h;obtain⟨vs,rfl,hl,_,hr⟩:=hx.si;obtain⟨us,rfl,Sk,_,PA⟩:=hy.si
  split at h
  ·rename_i fs r hu he
   have c1:yd w E P T cs (.agg vs):=by
    intro d hd;rw[hu]at hd;cases hd;refine⟨λ_=>⟨vs,rfl,λj p hp=>?_⟩,λh=>by simp[HY]at h⟩
    have hj:j<vs.size:=by grind
    exact⟨vs[j],V4 hj,hr j p _ hp (V4 hj)⟩
   have c2:yd w E P T ds (.agg us):=by
    intro d hd;rw[hu]at hd;cases hd;refine⟨λ_=>⟨us,rfl,λj p hp=>?_⟩,λh=>by simp[HY]at h⟩
    have hj:j<us.size:=by grind
    exact⟨us[j],V4 hj,PA j p _ hp (V4 hj)⟩
   have kZ:=λw'=>Sd (w:=w) (E:=E) 10000 T cs ds _ _ r he c1 c2 w'
   split at h
   ·exact⟨_,.bool r,h,λw'=>by simp[Sem.run_bind,run_eqGuard_agg w' _ _ _ _ _ _ hg,Result.andThen_ok,run_eql_struct,kZ],.c (.v _ rfl)⟩
   ·exact⟨_,.bool !r,h,λw'=>by simp only[Sem.run_bind,run_eqGuard_agg w' _ _ _ _ _ _ hg,Result.andThen_ok,run_neq_struct,kZ],.c (.v _ rfl)⟩
   simp_all
  simp_all
 simp_all
end
section
variable {w:World} {O:D->Prop} {E:Env} {w0:World} {m:Mem} {P:Program}
def pUn(op:UnOp)(x:PV)(K:PV->Prop):Prop:=
 match op,x with
 |.not,.v (.bool b)=>K (.v (.bool !b))
 |.neg,.v (.int k n)=>K (.v (.int k (k.wrap (0-n))))
 |_,_=>False
theorem U1{op:UnOp}{p:PV}(hx:eC w E p x){K:PV->Prop}(h:pUn op p K):∃r v,K r/\(∀w',(Op.unary op x).run P w'=.ok v w')/\eC w E r v:=by
 unfold pUn at h
 split at h
 ·obtain⟨rfl,_⟩:=hx.jw
  exact⟨_,_,h,λw'=>by rfl,.c (.v _ rfl)⟩
 ·obtain⟨rfl,_⟩:=hx.jw
  exact⟨_,_,h,λw'=>by rfl,.c (.v _ rfl)⟩
 grind
def GK(P:Program)(s d:TypeId)(x:PV)(K:PV->Prop):Prop:=
 match P.underlying s,P.underlying d,x with
 |some (.int _),F (.int k),.v (.int _ n)=>K (.v (.int k (k.wrap n)))
 |some .string,F .string,.v (.string t)=>K (.v (.string t))
 |_,_,_=>False
theorem Oc{s d:TypeId}{p:PV}(hx:eC w E p x){K:PV->Prop}(h:GK P s d p K):∃r v,K r/\(∀w',(convert s d x).run P w'=.ok v w')/\eC w E r v:=by
 unfold GK at h
 split at h
 ·rename_i _ k _ n h1 h2
  obtain⟨rfl,_⟩:=hx.jw;exact⟨_,_,h,λw'=>by simp[convert,run_underlying h1,run_underlying h2,Conv.intToInt],.c (.v _ rfl)⟩
 ·rename_i t h1 h2
  obtain⟨rfl,_⟩:=hx.jw;exact⟨_,_,h,λw'=>by simp[convert,run_underlying h1,run_underlying h2],.c (.v _ rfl)⟩
 grind
def live(m:Mem)(l:D)(K:MB->Prop):Prop:=
 match m[l]? with
 |some (F mb)=>K mb
 |_=>False
theorem jR{K:MB->Prop}(h:live m l K):∃mb,m[l]?=F (F mb)/\K mb:=by
 unfold live at h
 grind
def KN(x:L PV)(d:Int):L Int:=
 match x with
 |none=>F d
 |some (.v (.int _ i))=>F i
 |_=>J
def mw(P:Program)(m:Mem)(T:TypeId)(x:PV)(lo hi:L PV)(K:PV->Prop):Prop:=
 match P.underlying T,x with
 |some .string,.v (.string s)=>match KN lo 0,KN hi s.size with
  |some l,F h=>0<=l/\l<=h/\h<=s.size/\K (.v (.string (s.extract l.toNat h.toNat)))
  |_,_=>False
 |some (.slice e),.sl es=>match KN lo 0,KN hi (G es) with
  |some l,F h=>0<=l/\l<=h/\h<=G es/\0<P.cellsOf e/\(∀cs∈es,G cs=P.cellsOf e)/\K (.sl ((es.drop l.toNat).take (h.toNat-l.toNat)))
  |_,_=>False
 |some (.slice e),.ms r=>live m r λmb=>match KN lo 0,KN hi (G mb.es) with
  |some l,F h=>0<=l/\l<=h/\h<=G mb.es/\0<P.cellsOf e/\mb.k=P.cellsOf e/\K (.ss r l.toNat h.toNat)
  |_,_=>False
 |some (.slice e),.ss r a b=>live m r λmb=>match KN lo 0,KN hi (b-a:D)with
  |some l,F h=>0<=l/\l<=h/\h<=(b-a:D)/\0<P.cellsOf e/\mb.k=P.cellsOf e/\K (.ss r (a+l.toNat) (a+h.toNat))
  |_,_=>False
 |some (.slice e),.v (.slice J 0 0)=>match KN lo 0,KN hi 0 with
  |some l,F h=>0<=l/\l<=h/\h<=0/\0<P.cellsOf e/\K (.sl [])
  |_,_=>False
 |_,_=>False
theorem run_sliceBound{y:D}{c:BoundsCode}{k:IntKind}{i:Int}(h0:0<=i)(h1:i<=y)(w':World):(Instr.sliceBound (.int k i) y c).run P w'=.ok i.toNat w':=by
 simp[Instr.sliceBound,asIntOf,h0,h1]
theorem tM{x:L PV}{v:L Value}{d l:Int}(h:KN x d=F l)(hx:∀p,x=F p->∃y,v=F y/\eC w E p y)(hn:x=J->v=J):(v=J/\l=d/\x=J)\/∃k,v=F (.int k l):=by
 unfold KN at h
 split at h
 ·grind
 ·obtain⟨y,hy,hr⟩:=hx _ rfl
  obtain⟨rfl,_⟩:=hr.jw
  grind
 grind
theorem kO{isS:Bool}{len cap:D}{l h:Int}(hlo:(EJ=J/\l=0)\/∃k,EJ=F (.int k l))(hhi:(EI=J/\h=len)\/∃k,EI=F (.int k h))(h0:0<=l)(h1:l<=h)(h2:h<=len)(hc:len<=cap)(w':World):
 (Instr.sliceBounds isS len cap EJ EI J).run P w'=.ok (l.toNat,h.toNat,cap) w':=by
 have e1:(l:Int)<=(h.toNat:Int):=YA;have e2:h<=(cap:Int):=YA;have e3:0<=h:=YA;have r1:∀k c,(Instr.sliceBound (.int k l) h.toNat c).run P w'=.ok l.toNat w':=λk c=>run_sliceBound h0 e1 w'
 have r2:∀k c,(Instr.sliceBound (.int k h) cap c).run P w'=.ok h.toNat w':=λk c=>run_sliceBound e3 e2 w'
 rcases hlo with⟨rfl,rfl⟩ |⟨k,rfl⟩<;>rcases hhi with⟨rfl,rfl⟩ |⟨k',rfl⟩<;>
  (try simp only[Int.toNat_natCast]at r1)<;>simp[Instr.sliceBounds,r1,r2]
theorem uJ{i:TypeInfo}(hu:P.underlying T=F (.slice e))(od:P.info? e=F i)(hs:i.size=P.cellsOf e){A:L Addr}{n c:D}{l hh:Int}{w':World}
 (hb:(Instr.sliceBounds N n c EJ EI J).run P w'=.ok (l.toNat,hh.toNat,c) w'):
 (Instr.sliceAt T (.slice A n c) EJ EI J).run P w'=.ok (.slice (if c=l.toNat then A else A.map (·.add (l.toNat*P.cellsOf e))) (hh.toNat-l.toNat) (c-l.toNat)) w':=by
 simp[Instr.sliceAt,Instr.slice,run_underlying hu,hb,run_sizeOf od,hs]
theorem KV(hk:Ok w0 O E w m){p:PV}{lo hi:L PV}(hx:eC w E p x)(h1:∀p,lo=F p->∃y,EJ=F y/\eC w E p y)(h1n:lo=J->EJ=J)
 (h2:∀p,hi=F p->∃y,EI=F y/\eC w E p y) (h2n:hi=J->EI=J) {K:PV->Prop} (h:mw P m T p lo hi K):
 ∃r v,K r/\(∀w',(Instr.sliceAt T x EJ EI J).run P w'=.ok v w')/\eC w E r v:=by
 unfold mw at h
 split at h
 ·rename_i s hu
  obtain⟨rfl,_⟩:=hx.jw
  split at h
  ·rename_i l hh e1 e2
   obtain⟨a1,a2,a3,hK⟩:=h;refine⟨_,.string (s.extract l.toNat hh.toNat),hK,λw'=>?_,.c (.v _ rfl)⟩
   have b1:=tM e1 h1 h1n;have b2:=tM e2 h2 h2n;have hb:=kO (P:=P) (isS:=R) (len:=s.size) (cap:=s.size) (l:=l) (h:=hh) (EJ:=EJ) (EI:=EI) YD YD a1 a2 a3 (VW _) w';simp[Instr.sliceAt,Instr.slice,run_underlying hu,hb]
  grind
 ·rename_i e es hu
  split at h
  ·rename_i l hh e1 e2
   obtain⟨a1,a2,a3,iZ,hlen,hK⟩:=h;have b1:=tM e1 h1 h1n;have b2:=tM e2 h2 h2n;obtain⟨i,od,hs⟩:=lu iZ
   cases hx.uk with
   |nil A c=>
    simp at a3 b2
    have H9:l=0:=YA;have hh0:hh=0:=YA;subst H9 hh0;have hb:=kO (P:=P) (isS:=N) (len:=0) (cap:=c) (l:=0) (h:=0) (EJ:=EJ) (EI:=EI) YD YD YA YA YE (Ws _);refine⟨_,.slice (if c=0 then A else A.map (·.add 0)) 0 c,hK,λw'=>?_,?_⟩
    ·simp[Instr.sliceAt,Instr.slice,run_underlying hu,hb,run_sizeOf od]
    ·exact .c (.nil _ _)
   |sl _ b off k c u hS hk hn hm zq hc LH hr=>
    have hb:=kO (P:=P) (isS:=N) (len:=G es) (cap:=c) (l:=l) (h:=hh) (EJ:=EJ) (EI:=EI) YD YD a1 a2 a3 hn;have bD:G ((es.drop l.toNat).take (hh.toNat-l.toNat))=hh.toNat-l.toNat:=by
     grind
    refine⟨_,.slice (if c=l.toNat then F ⟨b,off,J⟩else F ((⟨b,off,J⟩:Addr).add (l.toNat*P.cellsOf e))) (hh.toNat-l.toNat) (c-l.toNat),hK,λw'=>?_,?_⟩
    ·simp[Instr.sliceAt,Instr.slice,run_underlying hu,hb,run_sizeOf od,hs]
    ·rcases XY (hh.toNat-l.toNat)with h0|h0
     ·rw[h0];exact .c (.nil _ _)
     ·have gL:¬c=l.toNat:=YA
      rw[if_neg gL];have hek:k=P.cellsOf e:=by
       have hl:l.toNat<G es:=YA;exact(zq _ _ (Z hl)).symm.trans (hlen _ (List.getElem_mem hl))
      have ea:(⟨b,off,J⟩:Addr).add (l.toNat*P.cellsOf e)=⟨b,off+l.toNat*k,J⟩:=by rw[hek];unfold Addr.add;simp
      have get:∀{i:D} {cs:C PV},((es.drop l.toNat).take (hh.toNat-l.toNat))[i]?=F cs->es[l.toNat+i]?=F cs:=by
       grind
      have key:=eO.sl (w:=w) (S:=E.S) ((es.drop l.toNat).take (hh.toNat-l.toNat)) b (off+l.toNat*k) k (c-l.toNat) (λi j=>u (l.toNat+i) j) hS hk YA YA
       (λi cs hi=>zq _ cs (get hi)) (λi cs j p hi hj=>by
        grind) (λi cs j p hi hj=>LH _ cs j p (get hi) hj) (λi cs j p hi hj=>hr _ cs j p (get hi) hj)
      rw[bD]at key
      rw[ea];exact .c key
  grind
 ·rename_i e r hu
  obtain⟨mb,hm,h⟩:=jR h
  split at h
  ·rename_i l hh e1 e2
   obtain⟨a1,a2,a3,iZ,LQ,hK⟩:=h;have b1:=tM e1 h1 h1n;have b2:=tM e2 h2 h2n;obtain⟨i,od,hs⟩:=lu iZ;obtain⟨B,hB,hbr,rfl⟩:=hx.vp hk hm;have hbn:=hbr.n;have xW:=hbr.nc;have Ax:∃A n c,B.sv=.slice A n c/\n=G mb.es/\n<=c/\c<=maxLen/\(0<n->B.z=R/\A=F ⟨B.b,0,J⟩)/\(B.z=R->A=F ⟨B.b,0,J⟩/\c=B.c):=by
    cases hz:B.z with
    |true=>exact⟨J,0,0,by simp[sx.sv,hz],by rw[hbr.nil hz];rfl,YA,YA,YA,λh=>nomatch h⟩
    |false=>exact⟨_,_,_,by simp[sx.sv,hz],hbn,xW,hbr.cm,λ_=>⟨rfl,rfl⟩,λ_=>⟨rfl,rfl⟩⟩
   obtain⟨A,n,c,Nj,hn,Zms,EX,hA,hA0⟩:=Ax;rw[Nj];have hb:=kO (P:=P) (isS:=N) (len:=n) (cap:=c) (l:=l) (h:=hh) (EJ:=EJ) (EI:=EI) YD YD a1 a2 YA Zms;refine⟨_,_,hK,λw'=>uJ hu od hs (hb w'),.ss _ _ _ _ (nT hk hm) rfl λB' ph=>?_⟩
   rw[hB]at ph;cases ph;refine⟨⟨_,_,rfl,YA,YA,λbD=>?_⟩,λH9 hz=>by
    obtain⟨rfl,rfl⟩:=hA0 hz;exact⟨_,by rw[H9,XX,Nat.sub_zero];split<;>rfl⟩⟩
   obtain⟨hz,hA'⟩:=hA YA;refine⟨hz,?_,YA,YA⟩;rw[if_neg YA];have:(⟨B.b,0,J⟩:Addr).add (l.toNat*P.cellsOf e)=⟨B.b,l.toNat*B.k,J⟩:=by rw[hbr.k];unfold Addr.add;grind
   grind
  grind
 ·rename_i e r a b hu
  obtain⟨mb,hm,h⟩:=jR h
  split at h
  ·rename_i l hh e1 e2
   obtain⟨a1,a2,a3,iZ,LQ,hK⟩:=h;have b1:=tM e1 h1 h1n;have b2:=tM e2 h2 h2n;obtain⟨i,od,hs⟩:=lu iZ;have hx0:a=0->∃B,E.β r=F B/\(B.z=R->x=.slice (F ⟨B.b,0,J⟩) b B.c):=λh0=>by
    subst h0;obtain⟨B,hB,_,_,h,_⟩:=hx.S9 hk hm
    grind
   obtain⟨B,hB,hbr,A,c,rfl,C2,hbB,hA⟩:=hx.DF hk hm;have Qm:a=0->B.z=R->A=F ⟨B.b,0,J⟩/\c=B.c:=λh0 hz=>by
    grind
   rcases Wu a b with bD|Cz
   ·obtain⟨hz,rfl,Ge,LM⟩:=hA bD
    have hb:=kO (P:=P) (isS:=N) (len:=b-a) (cap:=c) (l:=l) (h:=hh) (EJ:=EJ) (EI:=EI) YD YD a1 a2 a3 Ge;refine⟨_,_,hK,λw'=>uJ hu od hs (hb w'),.ss _ _ _ _ (nT hk hm) rfl λB' ph=>?_⟩
    rw[hB]at ph;cases ph;refine⟨⟨_,_,by congr 1;omega,YA,YA,λZh5=>?_⟩,λH9 hz=>by
     obtain⟨e1,rfl⟩:=Qm YA hz;have e0:l.toNat=0:=YA;exact⟨_,by rw[e0,XX,Nat.sub_zero,e1];split<;>rfl⟩⟩
    refine⟨hz,?_,YA,YA⟩;rw[if_neg YA];have:(⟨B.b,a*B.k,J⟩:Addr).add (l.toNat*P.cellsOf e)=⟨B.b,(a+l.toNat)*B.k,J⟩:=by
     rw[hbr.k,LQ,Xq];unfold Addr.add;simp
    grind
   ·have H9:l=0:=YA
    have hh0:hh=0:=YA;subst H9 hh0;have hba:b-a=0:=YA;rw[hba];have hb:=kO (P:=P) (isS:=N) (len:=0) (cap:=c) (l:=0) (h:=0) (EJ:=EJ) (EI:=EI) YD YD YA YA YA (Ws _);refine⟨_,_,hK,λw'=>uJ hu od hs (hb w'),.ss _ _ _ _ (nT hk hm) rfl λB' ph=>?_⟩
    rw[hB]at ph;cases ph;exact⟨⟨_,_,by congr 1;simp,YA,YA,λZh5=>YA⟩,λH9 hz=>by
     obtain⟨rfl,rfl⟩:=Qm YA hz;exact⟨_,by simp only[Int.toNat_zero,XX,Nat.sub_zero];split<;>rfl⟩⟩
  grind
 ·rename_i e hu
  split at h
  ·rename_i l hh e1 e2
   obtain⟨a1,a2,a3,iZ,hK⟩:=h;have b1:=tM e1 h1 h1n;have b2:=tM e2 h2 h2n;obtain⟨i,od,hs⟩:=lu iZ;obtain⟨rfl,_⟩:=hx.jw;have hh0:hh=0:=YA;have hb:=kO (P:=P) (isS:=N) (len:=0) (cap:=0) (l:=0) (h:=0) (EJ:=EJ) (EI:=EI) YD YD YA YA YA (Ws _);exact⟨_,_,hK,λw'=>uJ hu od hs (hb w'),.c (.nil _ _)⟩
  grind
 grind
def Ii(m:Mem)(x:PV)(K:PV->Prop):Prop:=
 match x with
 |.be l i o=>live m l λ_=>K (.be l i o)
 |.rp cs=>K (.rp cs)
 |_=>False
def mv(P:Program)(m:Mem)(S:TypeId)(x:PV)(f:D)(K:PV->Prop):Prop:=
 match P.underlying S with
 |some (.struct fs)=>match fs[f]? with
  |some fd=>0<P.cellsOf fd.type/\match x with
   |.be l i o=>live m l λ_=>K (.be l i (o+fd.offset))
   |.rp cs=>K (.rp (cs.drop fd.offset))
   |_=>False
  |none=>False
 |_=>False
theorem Du(hk:Ok w0 O E w m){S:TypeId}{p:PV}{f:D}(hx:eC w E p x){K:PV->Prop}(h:mv P m S p f K):
 ∃r v,K r/\(∀w',(Instr.fieldAt S x f).run P w'=.ok v w')/\eC w E r v:=by
 unfold mv at h
 split at h
 ·rename_i fs hu
  split at h
  ·rename_i fd hf
   obtain⟨iZ,h⟩:=h;obtain⟨i,hi,hs⟩:=lu iZ;have gL:¬i.size=0:=YA;have run:∀b o w',(Instr.fieldAt S (.pointer (F ⟨b,o,J⟩)) f).run P w'=.ok (.pointer (F ⟨b,o+fd.offset,J⟩)) w':=by
    intro b o w';have ea:(⟨b,o,J⟩:Addr).add fd.offset=⟨b,o+fd.offset,J⟩:=by unfold Addr.add;simp
    simp[Instr.fieldAt,run_underlying hu,hf,Instr.sureAddr,fieldPlace,run_sizeOf hi,gL,ea]
   split at h
   ·obtain⟨mb,hm,hK⟩:=jR h
    obtain⟨B,hB,hb,hz,rfl⟩:=hx.FA hk hm;exact⟨_,_,hK,run _ _,.be _ _ _ _ (nT hk hm) rfl λB' ph=>by grind⟩
   ·cases hx.Rp with
    |rp _ b off u hS hc h1 hr=>
     refine⟨_,_,h,run _ _,.c (.rp _ b (off+fd.offset) (λj=>u (fd.offset+j)) hS (λj p hj=>?_) (λj p hj=>?_) λj p hj=>?_)⟩
     all_goals grind
   grind
  grind
 grind
def yN(P:Program)(S:TypeId)(x:PV)(f:D)(K:PV->Prop):Prop:=
 match P.underlying S with
 |some (.struct fs)=>match fs[f]?,x with
  |some fd,.ag cs=>uw P fd.type (F (cs.drop fd.offset)) K
  |_,_=>False
 |_=>False
theorem KS{S:TypeId}{p:PV}{f:D}(hx:eC w E p x){K:PV->Prop}(h:yN P S p f K):
 ∃r v,K r/\(∀w',(Instr.field S x f).run P w'=.ok v w')/\eC w E r v:=by
 unfold yN at h
 split at h
 ·rename_i fs hu
  split at h
  ·rename_i fd cs hf
   obtain⟨vs,rfl,hl,h1,hr⟩:=hx.si;obtain⟨r,v,hK,kZ,wj⟩:=QR h hl h1 hr;exact⟨r,v,hK,λw'=>by simp[Instr.field,run_underlying hu,hf,asAgg,kZ],wj⟩
  grind
 grind
def dh(P:Program)(m:Mem)(T:TypeId)(x i:PV)(K:PV->Prop):Prop:=
 match P.underlying T,i with
 |some (.slice e),.v (.int _ n)=>match x with
  |.sl es=>0<=n/\n<G es/\0<P.cellsOf e/\(G (es.getD n.toNat []))=P.cellsOf e/\K (.rp (es.getD n.toNat []))
  |.ms l=>live m l λmb=>0<=n/\n<G mb.es/\mb.k=P.cellsOf e/\K (.be l n.toNat 0)
  |.ss l a b=>live m l λmb=>0<=n/\n<(b-a:D)/\mb.k=P.cellsOf e/\K (.be l (a+n.toNat) 0)
  |_=>False
 |_,_=>False
theorem Dw(hk:Ok w0 O E w m){p q:PV}(hx:eC w E p x)(hy:eC w E q y){K:PV->Prop}(h:dh P m T p q K):
 ∃r v,K r/\(∀w',(Instr.indexAt T x y).run P w'=.ok v w')/\eC w E r v:=by
 unfold dh at h
 split at h
 ·rename_i e kk n hu
  obtain⟨rfl,_⟩:=hy.jw
  split at h
  ·rename_i es
   obtain⟨a1,a2,iZ,hlen,hK⟩:=h;obtain⟨i,hi,hs⟩:=lu iZ;have Cz:es[n.toNat]?=F (es.getD n.toNat []):=by simp_all
   cases hx.uk with
   |nil A c=>grind
   |sl _ b off k c u hS hkp xW hm zq hc h1 hr=>
    have hek:k=P.cellsOf e:=(zq _ _ Cz).symm.trans hlen;have ea:(⟨b,off,J⟩:Addr).add (n.toNat*P.cellsOf e)=⟨b,off+n.toNat*k,J⟩:=by rw[hek];unfold Addr.add;simp
    refine⟨_,.pointer (F ⟨b,off+n.toNat*k,J⟩),hK,λw'=>?_,.c (.rp _ b (off+n.toNat*k) (λj=>u n.toNat j) hS (λj p hj=>hc _ _ j p Cz hj) (λj p hj=>h1 _ _ j p Cz hj) λj p hj=>hr _ _ j p Cz hj)⟩
    simp[Instr.indexAt,asIntOf,run_underlying hu,a1,a2,run_sizeOf hi,hs,ea]
  ·obtain⟨mb,hm,a1,a2,LQ,hK⟩:=jR h
   obtain⟨B,hB,hb,rfl⟩:=hx.vp hk hm;have hz:=hb.ZgO YA;have iZ:0<P.cellsOf e:=by rw[<-LQ,<-hb.k];exact hb.pos
   obtain⟨i,hi,hs⟩:=lu iZ;have ea:(⟨B.b,0,J⟩:Addr).add (n.toNat*P.cellsOf e)=⟨B.b,n.toNat*B.k,J⟩:=by rw[hb.k];unfold Addr.add;grind
   refine⟨_,.pointer (F ⟨B.b,n.toNat*B.k,J⟩),hK,λw'=>?_,.be _ _ _ _ (nT hk hm) rfl λB' ph=>by grind⟩
   have a2':n<(B.n:Int):=by rw[hb.n];omega
   simp[sx.sv,hz,Instr.indexAt,asIntOf,run_underlying hu,a1,a2',run_sizeOf hi,hs,ea]
  ·rename_i l a b
   obtain⟨mb,hm,a1,a2,LQ,hK⟩:=jR h;obtain⟨B,hB,hb,A,c,rfl,C2,hbB,hA⟩:=hx.DF hk hm;obtain⟨hz,rfl,_,_⟩:=hA YA;have iZ:0<P.cellsOf e:=by rw[<-LQ,<-hb.k];exact hb.pos
   obtain⟨i,hi,hs⟩:=lu iZ;have ea:(⟨B.b,a*B.k,J⟩:Addr).add (n.toNat*P.cellsOf e)=⟨B.b,(a+n.toNat)*B.k,J⟩:=by rw[hb.k,LQ,Xq];unfold Addr.add;simp
   refine⟨_,.pointer (F ⟨B.b,(a+n.toNat)*B.k,J⟩),hK,λw'=>?_,.be _ _ _ _ (nT hk hm) rfl λB' ph=>by grind⟩
   simp[Instr.indexAt,asIntOf,run_underlying hu,a1,a2,run_sizeOf hi,hs,ea]
  grind
 grind
def CM(s:V)(i:D):Int:=((s[i]?).map (·.toNat)).getD 0
def vv(P:Program)(T:TypeId)(x i:PV)(K:PV->Prop):Prop:=
 match P.underlying T,x,i with
 |some .string,.v (.string s),.v (.int _ n)=>0<=n/\n<s.size/\K (.v (.int .u8 (CM s n.toNat)))
 |_,_,_=>False
theorem KT{p q:PV}(hx:eC w E p x)(hy:eC w E q y){K:PV->Prop}(h:vv P T p q K):
 ∃r v,K r/\(∀w',(Instr.index T x y).run P w'=.ok v w')/\eC w E r v:=by
 unfold vv at h
 split at h
 ·rename_i s kk n hu
  obtain⟨rfl,_⟩:=hx.jw;obtain⟨rfl,_⟩:=hy.jw;obtain⟨a1,a2,hK⟩:=h;have hn:n.toNat<s.size:=YA;refine⟨_,.int .u8 (CM s n.toNat),hK,λw'=>?_,.c (.v _ rfl)⟩
  simp[Instr.index,asIntOf,run_underlying hu,a1,CM,hn]
 grind
def Od(i:D)(x:PV)(K:PV->Prop):Prop:=
 match x with
 |.tu vs=>match vs[i]? with
  |some p=>K p
  |none=>False
 |_=>False
theorem QO{p:PV}(hx:eC w E p x){K:PV->Prop}(h:Od i p K):∃r v,K r/\(∀w',(Instr.extract x i).run P w'=.ok v w')/\eC w E r v:=by
 unfold Od at h
 split at h
 ·split at h
  ·rename_i q hq
   obtain⟨us,rfl,hl,hr⟩:=hx.AX;have hi:i<us.size:=by grind
   exact⟨q,us[i],h,λw'=>by simp[Instr.extract,V4 hi],hr i q _ hq (V4 hi)⟩
  grind
 grind
def zR(P:Program)(m:Mem)(T:TypeId)(x:PV)(K:PV->Prop):Prop:=
 match P.underlying T,x with
 |some .string,.v (.string s)=>K (.v (Zh Zi s.size))
 |some (.slice _),.v (.slice J n _)=>K (.v (Zh Zi n))
 |some (.slice _),.sl es=>K (.v (Zh Zi (G es)))
 |some (.slice _),.ms l=>live m l λmb=>K (.v (Zh Zi (G mb.es)))
 |some (.slice _),.ss l a b=>live m l λ_=>K (.v (Zh Zi (b-a:D)))
 |_,_=>False
theorem QQ(hk:Ok w0 O E w m){p:PV}(hx:eC w E p x){K:PV->Prop}(h:zR P m T p K):∃r v,K r/\(∀w',(Builtin.len_ #[T] ty #[x]).run P w'=.ok v w')/\eC w E r v:=by
 unfold zR at h
 split at h
 ·rename_i s hu
  obtain⟨rfl,_⟩:=hx.jw;exact⟨_,_,h,λw'=>by simp[Builtin.len_,run_underlying hu,goInt],.c (.v _ rfl)⟩
 ·rename_i e n c hu
  obtain⟨rfl,_⟩:=hx.jw;exact⟨_,_,h,λw'=>by simp[Builtin.len_,run_underlying hu,goInt],.c (.v _ rfl)⟩
 ·rename_i e es hu
  cases hx.uk with
  |nil A c=>exact⟨_,_,h,λw'=>by simp[Builtin.len_,run_underlying hu,goInt],.c (.v _ rfl)⟩
  |sl=>exact⟨_,_,h,λw'=>by simp[Builtin.len_,run_underlying hu,goInt],.c (.v _ rfl)⟩
 ·rename_i e l hu
  obtain⟨mb,hm,hK⟩:=jR h;obtain⟨B,hB,hb,rfl⟩:=hx.vp hk hm;refine⟨_,_,hK,λw'=>?_,.c (.v _ rfl)⟩
  cases hz:B.z with
  |true=>simp[sx.sv,hz,Builtin.len_,run_underlying hu,goInt,hb.nil hz]
  |false=>simp[sx.sv,hz,Builtin.len_,run_underlying hu,goInt,hb.n]
 ·rename_i e l a b hu
  obtain⟨mb,hm,hK⟩:=jR h;obtain⟨B,hB,hb,A,c,rfl,_,_,_⟩:=hx.DF hk hm;exact⟨_,_,hK,λw'=>by simp[Builtin.len_,run_underlying hu,goInt],.c (.v _ rfl)⟩
 grind
end
def rD(w:World)(E:Env)(cs:C PV)(a:M Value):Prop:=
 a.size=G cs/\∀(j:D) (p:PV),cs[j]?=F p->∃x,a[j]?=F x/\x.oneCell'=N/\eC w E p x
def zV(cs:C PV)(off:D)(qs:C PV):C PV:=cs.take off++qs++cs.drop (off+G qs)
def zX(place:D->L (D×D)):C PV->C (D×PV)->L (C PV)
 |cs,[]=>F cs
 |cs,(i,p)::rest=>match place i,pc p with
  |some (off,size),F qs=>if (G qs)=size/\off+G qs<=G cs then zX place (zV cs off qs) rest else J
  |_,_=>J
section
variable {w:World} {O:D->Prop} {E:Env} {w0:World} {m:Mem} {P:Program}
theorem yT{cs qs:C PV}(h:off+G qs<=G cs):G (zV cs off qs)=G cs:=by
 simp[zV];omega
theorem Hi{cs qs:C PV}(h:off+G qs<=G cs)(j:D):(zV cs off qs)[j]?=if off<=j/\j<off+G qs then qs[j-off]? else cs[j]?:=by
 have hl:G (cs.take off)=off:=by grind
 unfold zV
 grind
theorem Ui(qs:C Value):∀(i off:D) (a:M Value),((qs.zipIdx i).foldl (λcs (c,j)=>cs.setIfInBounds (off+j) c) a).size=a.size/\
 ∀j,((qs.zipIdx i).foldl (λcs (c,j)=>cs.setIfInBounds (off+j) c) a)[j]?=if off+i<=j/\j<off+i+G qs/\j<a.size then qs[j-(off+i)]? else a[j]?:=by
 induction qs with
 |nil=>intro i off a;exact⟨rfl,λj=>by simp;omega⟩
 |cons q qs ih=>
  intro i off a;simp;obtain⟨h1,h2⟩:=ih (i+1) off (a.setIfInBounds (off+i) q)
  grind
theorem F3{place:D->L (D×D)}:∀(ps:C (D×PV)) (vs:C (D×Value)) (cs rW:C PV) (a:M Value),rD w E cs a->zX place cs ps=F rW->
 (G ps)=G vs->(∀(j i:D) (p:PV),ps[j]?=F (i,p)->∃x,vs[j]?=F (i,x)/\eC w E p x)->∃a',Instr.fill place a vs=F a'/\rD w E rW a'
 | [],[],cs,rW,a,h,hf,_,_=>by
  simp only[zX,Y]at hf
  subst hf;exact⟨a,rfl,h⟩
 | [],_::_,_,_,_,_,_,hl,_=>by grind
 |_::_,[],_,_,_,_,_,hl,_=>by grind
 |(i,p)::ps,(i',x)::vs,cs,rW,a,h,hf,hl,hr=>by
  obtain⟨x',xi,wj⟩:=hr 0 i p rfl;simp only[List.getElem?_cons_zero,Y,Prod.mk.injEq]at xi
  obtain⟨rfl,rfl⟩:=xi;simp only[zX]at hf
  split at hf
  ·rename_i off size qs hp hq
   simp only[WZ]at hf
   obtain⟨⟨h1,h2⟩,hf⟩:=hf;obtain⟨c1,c2⟩:=KZ wj hq;have Zj2:¬((x.cells.size≠size ||off+x.cells.size > a.size)=N):=by
    rw[c1,h1,h.1];simp_all
   obtain⟨f1,f2⟩:=Ui x.cells.toList 0 off a;have e:x.cells.zipIdx.foldl (λcs (x:Value×D)=>cs.setIfInBounds (off+x.2) x.1) a=(x.cells.toList.zipIdx 0).foldl (λcs (c,j)=>cs.setIfInBounds (off+j) c) a:=by
    rw[<-Array.foldl_toList,Array.toList_zipIdx]
   have Ur:rD w E (zV cs off qs) ((x.cells.toList.zipIdx 0).foldl (λcs (c,j)=>cs.setIfInBounds (off+j) c) a):=by
    refine⟨by rw[f1,h.1,yT h2],λj q hj=>?_⟩
    rw[Hi h2]at hj
    rw[f2 j,Nat.add_zero]
    by_cases c:off<=j/\j<off+G qs
    ·grind
    ·rw[if_neg c]at hj
     obtain⟨y,y1,y2,y3⟩:=h.2 j q hj
     grind
   obtain⟨a',e1,e2⟩:=F3 ps vs _ rW _ Ur hf YG λj i p hj=>by
    obtain⟨x,hx,hxr⟩:=hr (j+1) i p YG
    grind
   refine⟨a',?_,e2⟩;simp only[Instr.fill,hp,Zj2,if_false,Bool.false_eq_true]
   simp_all
  simp_all
def zeroOf(P:Program)(t:TypeId):L Value:=(P.info? t).bind (·.zero)
def pz(P:Program)(t:TypeId):L (C PV):=(zeroOf P t).bind λz=>pc (ZfG z)
theorem DA{cs:C PV}(h:pz P t=F cs):∃i z,P.info? t=F i/\i.zero=F z/\rD w E cs z.cells:=by
 unfold pz zeroOf at h
 cases hi:P.info? t with
 |none=>simp_all
 |some i=>
  cases hz:i.zero with
  |none=>simp_all
  |some z=>
   simp[hi,hz]at h
   exact⟨i,z,rfl,hz,KZ (Om z) h⟩
theorem Hg{i:TypeInfo}{z:Value}(hi:P.info? t=F i)(hz:i.zero=F z)(w':World):(zeroValue t).run P w'=.ok z w':=by
 simp[zeroValue,typeInfo,hi,hz]
def yM(P:Program)(T:TypeId)(ps:C (D×PV))(K:PV->Prop):Prop:=
 match P.underlying T with
 |some (.struct fs)=>(∀fd∈fs.toList,0<P.cellsOf fd.type)/\match pz P T with
  |some zc=>match zX (λi=>(fs[i]?).map λfd=>(fd.offset,P.cellsOf fd.type)) zc ps with
   |some cs=>K (.ag cs)
   |none=>False
  |none=>False
 |_=>False
theorem rD.ag{cs:C PV}{a:M Value}(h:rD w E cs a):eC w E (.ag cs) (.agg a):=by
 refine .ag cs a h.1 (λj x hx=>?_) λj p x hp hx=>?_
 ·have hj:j<G cs:=by rw[<-h.1];grind
  obtain⟨y,h1,h2,_⟩:=h.2 j _ (Z hj)
  grind
 ·obtain⟨y,h1,_,h3⟩:=h.2 j p hp
  grind
theorem run_places{fs:M Field}(h:∀fd∈fs.toList,0<P.cellsOf fd.type)(w':World):
 (fs.mapM fun(f:Field)=>(do pure (f.offset,<-sizeOf f.type):Sem (D×D))).run P w'=.ok (fs.map λfd=>(fd.offset,P.cellsOf fd.type)) w':=by
 rw[Array.mapM_eq_mapM_toList];have key:∀l:C Field,(∀fd∈l,0<P.cellsOf fd.type)->(l.mapM fun(f:Field)=>(do pure (f.offset,<-sizeOf f.type):Sem (D×D))).run P w'=.ok (l.map λfd=>(fd.offset,P.cellsOf fd.type)) w':=by
  intro l
  induction l with
  |nil=>simp
  |cons f l ih=>
   intro hl;obtain⟨i,hi,hs⟩:=lu (hl f YE);have:=ih λfd hfd=>hl fd YD
   simp only[List.mapM_cons,Sem.run_bind,run_sizeOf hi,Result.andThen_ok,Sem.run_pure,this,hs,List.map_cons]
 have k:=key fs.toList h;rw[Sem.run_map];refine(congrArg (λr=>Result.andThen r fun(a:C (D×D)) w'=>Result.ok a.toArray w') k).trans ?_
 show Result.ok _ _=_
 congr 1
 grind
theorem KO{ps:C (D×PV)}{vs:M (D×Value)}(hl:G ps=vs.size)(hr:∀(j i:D) (p:PV),ps[j]?=F (i,p)->∃x,vs[j]?=F (i,x)/\eC w E p x){K:PV->Prop}(h:yM P T ps K):
 ∃r v,K r/\(∀w',(Instr.build T vs).run P w'=.ok v w')/\eC w E r v:=by
 unfold yM at h
 split at h
 ·rename_i fs hu
  obtain⟨iZ,h⟩:=h
  split at h
  ·rename_i zc hz
   split at h
   ·rename_i cs hf
    obtain⟨i,z,hi,xB,hc⟩:=DA (w:=w) (E:=E) hz;obtain⟨a',e1,e2⟩:=F3 ps vs.toList zc cs z.cells hc hf YA λj i p hj=>by simp_all
    refine⟨_,.agg a',h,λw'=>?_,e2.ag⟩
    simp only[Instr.build,Sem.run_bind,Hg hi xB,run_underlying hu,Result.andThen_ok,run_places iZ w'];simp[e1]
   simp_all
  simp_all
 simp_all
end
section
variable {w:World} {O:D->Prop} {E:Env} {w0:World} {m:Mem} {P:Program}
def yc(P:Program)(w0:World)(O:D->Prop)(E:Env)(w:World)(ν:D)(s:Sem Value)(p:PV)(m':Mem):Prop:=
 ∃x w' E',s.run P w=.ok x w'/\Ok w0 O E' w' m'/\Ext w w' E E'/\eC w' E' p x/\∀l,E'.used l->E.used l\/l=ν
theorem J3{cs:C PV}{a:M Value}(h:rD w E cs a)(T:TK):∀(i:D) (ds:C PV) (j:D) (p:PV),(MB.mk T (G cs) [cs]).es[i]?=F ds->ds[j]?=F p->
 ∃x,a[i*G cs+j]?=F x/\x.oneCell'=N/\eC w E p x:=by
 intro i ds j p hi hj
 cases i with
 |zero=>
  obtain rfl:cs=ds:=by grind
  simpa using h.2 j p hj
 |succ i=>grind
theorem C1(hk:Ok w0 O E w m)(zr:¬E.used ν){mb:MB}{c:D}{a:M Value}(hkd:mb.T.kd=J)(iZ:0<mb.k)(hn:G mb.es<=c)(hc:c<=maxLen)(zq:∀(i:D) (cs:C PV),mb.es[i]?=F cs->G cs=mb.k)(hs:a.size=c*mb.k)
 (hr:∀(i:D) (cs:C PV) (j:D) (p:PV),mb.es[i]?=F cs->cs[j]?=F p->∃x,a[i*mb.k+j]?=F x/\x.oneCell'=N/\eC w E p x):
 ∃E',Ok w0 O E' (w.alloc (.cells a mb.T.t (0,0))) (qN m ν mb)/\Ext w (w.alloc (.cells a mb.T.t (0,0))) E E'/\
  eC (w.alloc (.cells a mb.T.t (0,0))) E' (.ms ν) (.slice (F ⟨w.heap.size,0,J⟩) (G mb.es) c)/\
  eC (w.alloc (.cells a mb.T.t (0,0))) E' (.be ν 0 0) (.pointer (F ⟨w.heap.size,0,J⟩))/\∀l,E'.used l->E.used l\/l=ν:=by
 have xh:(w.alloc (.cells a mb.T.t (0,0))).heap.size=w.heap.size+1:=by simp
 obtain⟨h1,h2⟩:=hk.new (w':=w.alloc (.cells a mb.T.t (0,0))) zr mb ⟨w.heap.size,c,G mb.es,mb.k,mb.T.t,R⟩ rfl rfl rfl YA (λb hb=>heap_alloc_old _ _ hb) (λ_=>⟨VW _,by simp⟩)
  λhx=>⟨rfl,rfl,rfl,iZ,hn,hc,zq,(λh=>by cases h),λ_=>⟨a,heap_alloc_new w _,hs,λi cs j p hi hj=>by
   obtain⟨x,x1,x2,x3⟩:=hr i cs j p hi hj;exact⟨x,x1,x2,x3.ext hx⟩⟩,λT hT=>by simp_all⟩
 refine⟨_,h1,h2,.ms _ _ (.inl rfl) rfl λB hB=>?_,.be _ _ _ _ (.inl rfl) rfl λB hB=>?_,λl hl=>hl.symm⟩
 ·have e:B=⟨w.heap.size,c,G mb.es,mb.k,mb.T.t,R⟩:=by simpa[Env.add,eq_comm]using hB
  subst e;rfl
 ·have e:B=⟨w.heap.size,c,G mb.es,mb.k,mb.T.t,R⟩:=by simpa[Env.add,eq_comm]using hB
  simp_all
def Ds(ν:D)(m:Mem)(T:TypeId)(cs:L (C PV))(K:PV->Mem->Prop):Prop:=
 match cs with
 |some (c::cs)=>K (.be ν 0 0) (qN m ν ⟨T,G (c::cs),[c::cs]⟩)
 |_=>False
theorem GJ(hk:Ok w0 O E w m)(zr:¬E.used ν){cs:C PV}(hc:rD w E cs x.cells){K:PV->Mem->Prop}(h:Ds ν m T (F cs) K):∃p m',K p m'/\yc P w0 O E w ν (do pure (.pointer (F (<-newVar T x)))) p m':=by
 unfold Ds at h
 split at h
 ·rename_i c rW e
  obtain rfl:cs=c::rW:=by grind
  obtain⟨E',h1,h2,_,h4,h5⟩:=C1 (mb:=⟨T,G (c::rW),[c::rW]⟩) (c:=1) hk zr rfl YE YE YR (λi ds hi=>by
   grind) (by rw[hc.1];simp) (J3 hc T)
  exact⟨_,_,h,.pointer (F ⟨w.heap.size,0,J⟩),_,E',by rfl,h1,h2,h4,h5⟩
 simp_all
theorem QN(hk:Ok w0 O E w m)(zr:¬E.used ν){p:PV}(hx:eC w E p x){K:PV->Mem->Prop}(h:Ds ν m T (pc p) K):∃p m',K p m'/\yc P w0 O E w ν (Instr.box T x) p m':=by
 cases hp:pc p with
 |none=>rw[hp]at h;exact h.elim
 |some cs=>rw[hp]at h;exact GJ hk zr (KZ hx hp) h
theorem KM(hk:Ok w0 O E w m)(zr:¬E.used ν){K:PV->Mem->Prop}(h:Ds ν m T (pz P T) K):∃p m',K p m'/\yc P w0 O E w ν (Instr.alloc T N (.tuple #[])) p m':=by
 cases hp:pz P T with
 |none=>rw[hp]at h;exact h.elim
 |some cs=>
  rw[hp]at h
  obtain⟨i,z,hi,hz,hc⟩:=DA (w:=w) (E:=E) hp;obtain⟨p,m',hK,x,w',E',kZ,r⟩:=GJ (P:=P) hk zr hc h;refine⟨p,m',hK,x,w',E',?_,r⟩;simp[Instr.alloc,Hg hi hz];exact kZ
def Am(zc:C PV):D->C PV
 |0=>[]
 |n+1=>zc++Am zc n
def chunk(k:D):D->C PV->C (C PV)
 |0,_=>[]
 |n+1,cs=>cs.take k::chunk k n (cs.drop k)
theorem xU(zc:C PV)(n:D):G (Am zc n)=n*G zc:=by
 induction n with
 |zero=>simp[Am]
 |succ n ih=>simp[Am,Xu];omega
theorem Zah{zc:C PV}{p:PV}(h:(Am zc n)[j]?=F p):zc[j % (G zc)]?=F p:=by
 induction n generalizing j with
 |zero=>simp[Am]at h
 |succ n ih=>
  simp only[Am]at h
  rcases Wu j (G zc) with hj|hj
  ·rw[Wz hj]at h
   rwa[X6 hj]
  ·rw[WE hj]at h
   have:=ih h
   rwa[Nat.mod_eq_sub_mod hj]
theorem xr(k n:D)(cs:C PV):G (chunk k n cs)=n:=by
 induction n generalizing cs with
 |zero=>rfl
 |succ n ih=>simp[chunk,ih]
theorem Iy{cs ds:C PV}(h:(chunk k n cs)[i]?=F ds):ds=(cs.drop (i*k)).take k:=by
 induction n generalizing cs i with
 |zero=>simp[chunk]at h
 |succ n ih=>
  cases i with
  |zero=>simpa[chunk,eq_comm]using h
  |succ i=>
   have:=ih (i:=i) (by simpa[chunk]using h)
   rw[this,List.drop_drop,Xu,XG]
theorem TY{cs:C PV}{a:M Value}(hk:0<k)(h:rD w E cs a)(hl:G cs=n*k):(∀(i:D) (ds:C PV),(chunk k n cs)[i]?=F ds->G ds=k)/\
 ∀(i:D) (ds:C PV) (j:D) (p:PV),(chunk k n cs)[i]?=F ds->ds[j]?=F p->∃x,a[i*k+j]?=F x/\x.oneCell'=N/\eC w E p x:=by
 have bD:∀{i:D} {ds:C PV},(chunk k n cs)[i]?=F ds->i<n:=λhi=>by
  have:=(VT.1 hi).1
  rwa[xr]at this
 refine⟨λi ds hi=>?_,λi ds j p hi hj=>?_⟩
 ·have xg:=bD hi
  rw[Iy hi];have this:=W k xg
  grind
 ·rw[Iy hi,List.getElem?_take]at hj
  split at hj
  ·rw[List.getElem?_drop]at hj
   exact h.2 _ p hj
  simp_all
def o4(P:Program)(ν:D)(m:Mem)(T:TypeId)(n:D)(ps:C (D×PV))(K:PV->Mem->Prop):Prop:=
 match P.underlying T with
 |some (.slice e)=>match pz P e with
  |some zc=>0<P.cellsOf e/\(G zc)=P.cellsOf e/\n*P.cellsOf e<=16777216/\match zX (λi=>F (i*P.cellsOf e,P.cellsOf e)) (Am zc n) ps with
   |some cs=>K (.ms ν) (qN m ν ⟨e,P.cellsOf e,chunk (P.cellsOf e) n cs⟩)
   |none=>False
  |none=>False
 |_=>False
theorem BD{place:D->L (D×D)}:∀(ps:C (D×PV)) (cs rW:C PV),zX place cs ps=F rW->G rW=G cs
 | [],cs,rW,h=>by simp only[zX,Y]at h;rw[h]
 |(i,p)::ps,cs,rW,h=>by
  simp only[zX]at h
  split at h
  ·simp at h
   rw[BD ps _ _ h.2,yT h.1.2]
  grind
theorem Cb(hk:Ok w0 O E w m)(zr:¬E.used ν){ps:C (D×PV)}{vs:M (D×Value)}(hl:G ps=vs.size)
 (hr:∀(j i:D) (p:PV),ps[j]?=F (i,p)->∃x,vs[j]?=F (i,x)/\eC w E p x) {K:PV->Mem->Prop} (h:o4 P ν m T n ps K):∃p m',K p m'/\yc P w0 O E w ν (Instr.buildSlice T n vs) p m':=by
 unfold o4 at h
 split at h
 ·rename_i e hu
  split at h
  ·rename_i zc hz
   obtain⟨iZ,CD,Gd,h⟩:=h
   split at h
   ·rename_i cs hf
    obtain⟨i,z,hi,xB,hc⟩:=DA (w:=w) (E:=E) hz;have his:i.size=P.cellsOf e:=by simp[Program.cellsOf,hi]
    have h0:rD w E (Am zc n) ((X4 (n*i.size)).map (z.cells[· % z.cells.size]!)):=by
     refine⟨by rw[xU,CD,his];simp,λj p hj=>?_⟩
     have EZ:=(VT.1 hj).1;rw[xU,CD]at EZ
     obtain⟨x,x1,x2,x3⟩:=hc.2 _ p (Zah hj);rw[<-hc.1]at x1
     grind
    obtain⟨a',e1,e2⟩:=F3 ps vs.toList _ cs _ h0 hf YA λj i p hj=>by simp_all
    have vD:G cs=n*P.cellsOf e:=by rw[BD _ _ _ hf,xU,CD]
    obtain⟨r1,r2⟩:=TY iZ e2 vD;obtain⟨E',h1,h2,h3,_,h5⟩:=C1 (mb:=⟨e,P.cellsOf e,chunk (P.cellsOf e) n cs⟩) (c:=n) hk zr rfl iZ (by simp[xr]) (by
     unfold maxLen;have:n*1<=n*P.cellsOf e:=Nat.mul_le_mul_left n iZ;omega) r1 (by rw[e2.1,vD]) r2
    simp only[xr]at h3
    refine⟨_,_,h,_,_,E',?_,h1,h2,h3,h5⟩;have e3:Instr.fill (λj=>F (j*i.size,i.size)) ((X4 (n*i.size)).map (z.cells[· % z.cells.size]!)) vs.toList=F a':=by simp_all
    have hnb:¬n*i.size > 2 ^ 24:=by simp_all
    by_cases hn0:n*i.size=0
    ·have e4:(X4 (n*i.size)).map (z.cells[· % z.cells.size]!)=(X4 (n*i.size)).map ((#[]:M Value)[· % (#[]:M Value).size]!):=by
      grind
     rw[e4]at e3
     simp only[Instr.buildSlice,Sem.run_bind,run_underlying hu,Result.andThen_ok,run_sizeOf hi,hnb,if_false,Sem.run_ite,hn0,if_true,Sem.run_pure];rw[hn0]at e3
     simp only[e3];rfl
    ·simp only[Instr.buildSlice,Sem.run_bind,run_underlying hu,Result.andThen_ok,run_sizeOf hi,hnb,if_false,Sem.run_ite,hn0,Sem.run_pure,Hg hi xB,e3]
     rfl
   simp_all
  simp_all
 simp_all
end
section
variable {w:World} {O:D->Prop} {E:Env} {w0:World} {m:Mem} {P:Program}
def yO(P:Program)(ν:D)(m:Mem)(T:TypeId)(l c:PV)(K:PV->Mem->Prop):Prop:=
 match P.underlying T,l,c with
 |some (.slice e),.v (Zh Zi n),.v (Zh Zi n')=>match pz P e with
  |some zc=>n=n'/\0<=n/\0<P.cellsOf e/\(G zc)=P.cellsOf e/\n<=1099511627776/\P.bytesOf e*n<=140737488355328/\K (.ms ν) (qN m ν ⟨e,P.cellsOf e,V9 n.toNat zc⟩)
  |none=>False
 |_,_,_=>False
theorem Oe(hk:Ok w0 O E w m)(zr:¬E.used ν){p q:PV}(hx:eC w E p x)(hy:eC w E q y){K:PV->Mem->Prop}(h:yO P ν m T p q K):∃p m',K p m'/\yc P w0 O E w ν (Instr.makeSlice T x y) p m':=by
 unfold yO at h
 split at h
 ·rename_i e n n' hu
  obtain⟨rfl,_⟩:=hx.jw;obtain⟨rfl,_⟩:=hy.jw
  split at h
  ·rename_i zc hz
   obtain⟨rfl,h0,iZ,CD,Gd,sN,hK⟩:=h;obtain⟨i,z,hi,xB,hc⟩:=DA (w:=w) (E:=E) hz;have his:i.size=P.cellsOf e:=by simp[Program.cellsOf,hi]
   have hib:i.bytes=P.bytesOf e:=by simp[Program.bytesOf,hi]
   obtain⟨k,rfl⟩:∃k:D,n=(k:Int):=⟨n.toNat,YA⟩;have hkb:i.bytes*k<=281474976710656:=by
    grind
   have kZ:=run_mk T e i z hu hi xB k hkb YA w;have zJ:∀(i:D) (cs:C PV),(V9 k zc)[i]?=F cs->i<k/\cs=zc:=by
    grind
   obtain⟨E',h1,h2,h3,_,h5⟩:=C1 (mb:=⟨e,P.cellsOf e,V9 k zc⟩) (c:=k) (a:=madeCells z.cells (k*i.size)) hk zr rfl iZ YE YR
    (λi cs hi=>by grind) (by rw[his];simp[madeCells]) (λi' cs j p od hj=>by
     obtain⟨bD,rfl⟩:=zJ i' cs od;obtain⟨x,x1,x2,x3⟩:=hc.2 j p hj;refine⟨x,?_,x2,x3⟩;have EZ:j<P.cellsOf e:=by grind
     have hzs:z.cells.size=P.cellsOf e:=by rw[hc.1,CD]
     have xg:i'*P.cellsOf e+j<k*i.size:=by
      rw[his];have:(i'+1)*P.cellsOf e<=k*P.cellsOf e:=W _ bD
      grind
     have Zki:(i'*P.cellsOf e+j) % z.cells.size=j:=by rw[hzs,XG,Yf,X6 EZ]
     simp only[madeCells]
     simp_all)
   simp only[List.length_replicate]at h3
   have hK':K (.ms ν) (qN m ν ⟨e,P.cellsOf e,V9 k zc⟩):=by simp_all
   exact⟨_,_,hK',_,_,E',kZ,h1,h2,h3,h5⟩
  simp_all
 simp_all
def yP(P:Program)(m:Mem)(T:TypeId)(a x:PV)(K:PV->Mem->Prop):Prop:=
 match a,pc x with
 |.be l i o,F qs=>live m l λmb=>match mb.es[i]? with
  |some cs=>0<G qs/\(G qs)=P.cellsOf T/\o+G qs<=G cs/\K .ud (m.set l (F ⟨mb.T.st qs,mb.k,mb.es.set i (zV cs o qs)⟩))
  |none=>False
 |_,_=>False
theorem S1(l vs:C Value)(O:D)(h:O+G vs<=G l)(j:D):(l.take O++vs++l.drop (O+G vs))[j]?=if O<=j/\j<O+G vs then vs[j-O]? else l[j]?:=by
 have hl:G (l.take O)=O:=by grind
 grind
theorem KW(hk:Ok w0 O E w m){p q:PV}(hx:eC w E p x)(hy:eC w E q y){K:PV->Mem->Prop}(h:yP P m T p q K):
 ∃m',K .ud m'/\∃w',(Instr.storeAt T x y).run P w=.ok () w'/\Ok w0 O E w' m'/\Ext w w' E E:=by
 unfold yP at h
 split at h
 ·rename_i l i o qs hq
  obtain⟨mb,hm,h⟩:=jR h
  split at h
  ·rename_i cs tv
   obtain⟨iZ,hT,hle,hK⟩:=h;obtain⟨B,hB,hb,hz,rfl⟩:=hx.FA hk hm;obtain⟨c1,c2⟩:=KZ hy hq;obtain⟨ti,hti,hts⟩:=lu (P:=P) (t:=T) YA;obtain⟨cells,m1,m2,m3⟩:=hb.mem hz;have vD:=hb.es i cs tv;have xg:i<B.n:=by rw[hb.n];grind
   have Na:i*B.k+B.k<=B.c*B.k:=by
    have:(i+1)*B.k<=B.c*B.k:=W _ (Wd xg hb.nc)
    grind
   have Aw:∀v∈y.cells.toList,v.oneCell'=true:=by
    intro v hv;obtain⟨j,hj⟩:=WL hv;have EZ:j<G qs:=by
     grind
    obtain⟨z,z1,z2,_⟩:=c2 j _ (Z EZ)
    simp_all
   have tV:=run_storeCells_at P B.b (i*B.k+o) B.T y.cells.toList 0 cells w m1 YD Aw;refine⟨_,hK,w.setRow B.b (cells.toList.take (i*B.k+o+0)++y.cells.toList++cells.toList.drop (i*B.k+o+0+G y.cells.toList)).toArray,?_,?_⟩
   ·have xh:¬y.cells.size≠ti.size:=YA
    simp only[Instr.storeAt,Instr.sureAddr,storeVar,Sem.run_bind,Sem.run_pure,Result.andThen_ok,run_sizeOf hti,xh,if_false];omega
   ·refine hk.put hB hz _ rfl rfl rfl YE (λb gL=>setRow_other w B.b b _ gL) λxi=>?_
    ·have Ia:G (zV cs o qs)=G cs:=yT hle
     refine⟨hb.k,by rw[hb.n];simp,by rw[hb.T];exact(TK.Zk7 _ _).symm,hb.pos,hb.nc,hb.cm,λi' rW od=>?_,λh=>YG,λ_=>⟨_,setRow_heap w B.b cells _ B.T _ m1,?_,λi' rW j pp od hj=>?_⟩,λT1 hT1 _ i' rW j es x od hj gL hc=>?_⟩
     ·simp only at od
      by_cases e:i'=i
      ·grind
      ·rw[WB (Ne.symm e)]at od
       exact hb.es i' rW od
     ·grind
     ·simp only at od
      have h1:G y.cells.toList=G qs:=YA;have hsg:=λt=>S1 cells.toList y.cells.toList (i*B.k+o+0) YD t
      by_cases e:i'=i
      ·subst e
       rw[WR (VT.1 tv).1]at od
       simp only[Y]at od
       subst od;rw[Hi hle]at hj
       by_cases c:o<=j/\j<o+G qs
       ·rw[if_pos c]at hj
        obtain⟨z,z1,z2,z3⟩:=c2 _ pp hj;refine⟨z,?_,z2,z3.ext xi⟩;rw[XJ,hsg,if_pos YA]
        grind
       ·rw[if_neg c]at hj
        obtain⟨z,z1,z2,z3⟩:=m3 i' cs j pp tv hj;refine⟨z,?_,z2,z3.ext xi⟩
        grind
      ·rw[WB (Ne.symm e)]at od
       obtain⟨z,z1,z2,z3⟩:=m3 i' rW j pp od hj;refine⟨z,?_,z2,z3.ext xi⟩;have EZ:j<B.k:=by rw[<-hb.es i' rW od];grind
       rw[XJ,hsg,if_neg ?_,WU]
       ·omega
       ·rw[h1]
        intro⟨g1,g2⟩
        rcases Nat.lt_or_gt_of_ne e with bD|EY
        ·have:(i'+1)*B.k<=i*B.k:=W _ bD
         rw[Xu]at this
         omega
        ·have:(i+1)*B.k<=i'*B.k:=W _ EY
         rw[Xu]at this
         omega
     ·simp only at od
      obtain⟨hk1,hns⟩:=TK.Zdy hT1;have h1:G y.cells.toList=G qs:=YA;have hsg:=λt=>S1 cells.toList y.cells.toList (i*B.k+o+0) (by simp only[W7,c1,m2];omega) t
      rw[cell_of_row _ B.b _ _ B.T (0,0) (setRow_heap w B.b cells _ B.T _ m1),XJ,hsg]at hc
      have AK:∀cs1,mb.es[i']?=F cs1->cs1[j]?=F (.sl es)->¬(i*B.k+o+0<=i'*B.k+j/\i'*B.k+j<i*B.k+o+0+G y.cells.toList)->L1 (w.setRow B.b (cells.toList.take (i*B.k+o+0)++y.cells.toList++cells.toList.drop (i*B.k+o+0+G y.cells.toList)).toArray) E T1 ((mb.T.st qs).t,i',j) es x:=by
       intro cs1 g1 g2 g3;rw[if_neg g3,WU]at hc
       rw[TK.Zk7];exact(hb.key T1 hk1 hz i' cs1 j es x g1 g2 gL (by rw[cell_of_row w B.b _ cells B.T (0,0) m1];exact hc)).ext xi
      by_cases e:i'=i
      ·subst e
       rw[WR (VT.1 tv).1]at od
       simp only[Y]at od
       subst od;rw[Hi hle]at hj
       by_cases c:o<=j/\j<o+G qs
       ·rw[if_pos c]at hj
        exact X (KF hns hj) gL
       ·rw[if_neg c]at hj
        exact AK cs tv hj (by rw[h1];omega)
      ·rw[WB (Ne.symm e)]at od
       have EZ:j<B.k:=by rw[<-hb.es i' rW od];exact(VT.1 hj).1
       refine AK rW od hj ?_;rw[h1];intro⟨g1,g2⟩
       rcases Nat.lt_or_gt_of_ne e with bD|EY
       ·have:(i'+1)*B.k<=i*B.k:=W _ bD
        rw[Xu]at this
        omega
       ·have:(i+1)*B.k<=i'*B.k:=W _ EY
        rw[Xu]at this
        omega
  simp_all
 simp_all
end
section
variable {w:World} {O:D->Prop} {E:Env} {w0:World} {m:Mem} {P:Program}
def rR(m:Mem):PV->L (C (C PV))
 |.sl es=>F es
 |.v (.slice J 0 _)=>F []
 |.ms l=>match m[l]? with
  |some (F mb)=>F mb.es
  |_=>J
 |.ss l a b=>match m[l]? with
  |some (F mb)=>F ((mb.es.drop a).take (b-a))
  |_=>J
 |_=>J
theorem P4(h:j<k):(i*k+j) / k=i/\(i*k+j) % k=j:=by
 have hk:0<k:=YA;refine⟨?_,?_⟩
 ·rw[XG,Nat.add_mul_div_right _ _ hk,Nat.div_eq_of_lt h,Wa]
 ·rw[XG,Yf,X6 h]
theorem Oh{B:sx}{mb:MB}(hb:iA w E mb B)(hz:B.z=R){a b:D}(C2:a<=b)(hbn:b<=B.n){es:C (C PV)}(zq:es=(mb.es.drop a).take (b-a))(BG:0<k)(hlen:∀(i:D) (cs:C PV),es[i]?=F cs->G cs=k):
 ∃news:C Value,G news=G es*k/\(∀j u,news[j]?=F u->w.cell? ((⟨B.b,a*B.k,J⟩:Addr).add j)=F u)/\(∀u∈news,u.oneCell'=N)/\
  ∀(i:D) (cs:C PV) (j:D) (p:PV),es[i]?=F cs->cs[j]?=F p->∃u,news[i*k+j]?=F u/\eC w E p u:=by
 obtain⟨cells,m1,m2,m3⟩:=hb.mem hz;have hn:=hb.n;have hel:G es=b-a:=by grind
 have get:∀{i:D} {cs:C PV},es[i]?=F cs->mb.es[a+i]?=F cs:=by
  grind
 rcases XY (G es) with h0|h0
 ·simp_all
 have e0:B.k=k:=(hb.es _ _ (get (Z h0))).symm.trans (hlen 0 _ (Z h0));rw[e0]at m2 m3
 have bD:∀t,t<G es*k->∃x,cells[a*k+t]?=F x/\x.oneCell'=true:=by
  intro t ht;have hq:t / k<G es:=by rw[XL BG];omega
  have PA:=Nat.mod_lt t BG;have e1:=Z hq;have e2:(es[t / k])[t % k]?=F ((es[t / k])[t % k]' YD):=Z _;have e3:t / k*k+t % k=t:=by rw[Nat.mul_comm];exact Nat.div_add_mod t k
  grind
 have Na:a*k+G es*k<=cells.size:=by
  rw[m2,<-Xq];exact W _ (by have:=hb.nc;omega)
 refine⟨(cells.toList.drop (a*k)).take (G es*k),by grind,λj v hj=>?_,λv hv=>?_,λi cs j p hi hj=>?_⟩
 ·have ea:(⟨B.b,a*B.k,J⟩:Addr).add j=⟨B.b,a*k+j,J⟩:=by rw[e0];unfold Addr.add;simp
  rw[ea,cell_of_row w B.b _ cells B.T (0,0) m1]
  grind
 ·obtain⟨t,ht⟩:=WL hv
  grind
 ·have CA:i<G es:=(VT.1 hi).1
  have bD:i*k+j<G es*k:=by
   have:(i+1)*k<=G es*k:=W _ CA
   grind
  grind
theorem Zgj(hk:Ok w0 O E w m){p:PV}(hy:eC w E p y){es:C (C PV)}(hs:rR m p=F es)(BG:0<k)(hlen:∀(i:D) (cs:C PV),es[i]?=F cs->G cs=k):
 (∃c,y=.slice J 0 c/\es=[])\/∃(a:Addr) (c:D) (news:C Value),y=.slice (F a) (G es) c/\(G news)=G es*k/\(∀j u,news[j]?=F u->w.cell? (a.add j)=F u)/\(∀u∈news,u.oneCell'=N)/\
  ∀(i:D) (cs:C PV) (j:D) (p:PV),es[i]?=F cs->cs[j]?=F p->∃u,news[i*k+j]?=F u/\eC w E p u:=by
 unfold rR at hs
 split at hs
 ·rename_i wz
  obtain rfl:wz=es:=by grind
  cases hy.uk with
  |nil A c=>
   cases A with
   |none=>simp
   |some a=>simp
  |sl _ b off k' c u hS hkp hn hm zq hc h1 hr=>
   refine .inr ⟨⟨b,off,J⟩,c,(Wj (G wz*k)).map λt=>u (t / k) (t % k),rfl,by simp,λj v hj=>?_,λv hv=>?_,λi cs j p hi hj=>?_⟩
   ·have EZ:j<G wz*k:=by grind
    have hq:j / k<G wz:=by rw[XL BG];omega
    have PA:=Nat.mod_lt j BG;have e1:=Z hq;have e0:k'=k:=(zq _ _ e1).symm.trans (hlen _ _ e1);have e2:(wz[j / k])[j % k]?=F ((wz[j / k])[j % k]' YD):=Z _;have:=hc _ _ _ _ e1 e2;rw[e0]at this
    have e3:j / k*k+j % k=j:=by rw[Nat.mul_comm];exact Nat.div_add_mod j k
    have ea:(⟨b,off,J⟩:Addr).add j=⟨b,off+j,J⟩:=by unfold Addr.add;simp
    grind
   ·obtain⟨t,ht,rfl⟩:=List.mem_map.1 hv
    have EZ:t<G wz*k:=by grind
    have hq:t / k<G wz:=by rw[XL BG];omega
    have PA:=Nat.mod_lt t BG;have e1:=Z hq;have e2:(wz[t / k])[t % k]?=F ((wz[t / k])[t % k]' YD):=Z _
    grind
   ·have EZ:j<k:=by grind
    have CA:i<G wz:=(VT.1 hi).1;obtain⟨d1,d2⟩:=P4 (i:=i) EZ;have bD:i*k+j<G wz*k:=by
     have:(i+1)*k<=G wz*k:=W _ CA
     grind
    refine⟨u i j,?_,.c (hr i cs j p hi hj)⟩
    grind
 ·obtain rfl:es=[]:=by grind
  obtain⟨rfl,_⟩:=hy.jw;simp
 ·split at hs
  ·rename_i l mb hm
   obtain rfl:mb.es=es:=by grind
   obtain⟨B,hB,hb,rfl⟩:=hy.vp hk hm
   cases hz:B.z with
   |true=>exact .inl ⟨0,by simp[sx.sv,hz],hb.nil hz⟩
   |false=>
    obtain⟨news,n1,n2,n3,n4⟩:=Oh hb hz (a:=0) (b:=B.n) (Ws _) (VW _) (es:=mb.es) (by simp[hb.n]) BG hlen
    exact .inr ⟨_,B.c,news,by simp[sx.sv,hz,hb.n],n1,n2,n3,n4⟩
  grind
 ·split at hs
  ·rename_i l a b _ mb hm
   obtain rfl:(mb.es.drop a).take (b-a)=es:=by grind
   obtain⟨B,hB,hb,A,c,rfl,C2,hbn,hA⟩:=hy.DF hk hm;have hel:G ((mb.es.drop a).take (b-a))=b-a:=by rw[Wy,List.length_drop,<-hb.n];omega
   rcases Wu a b with bD|Cz
   ·obtain⟨hz,rfl,Ge,LM⟩:=hA bD
    obtain⟨news,n1,n2,n3,n4⟩:=Oh hb hz C2 hbn rfl BG hlen
    grind
   ·cases A with
    |none=>simp_all
    |some ad=>
     simp_all
  grind
 grind
def ix(P:Program)(ν:D)(m:Mem)(T:TypeId)(s x:PV)(K:PV->Mem->Prop):Prop:=
 match P.underlying T with
 |some (.slice e)=>match pz P e,rR m x with
  |some zc,F es=>G zc=P.cellsOf e/\0<P.cellsOf e/\(∀cs∈es,G cs=P.cellsOf e)/\match s with
   |.ms l=>live m l λmb=>mb.T.t=e/\mb.k=P.cellsOf e/\(G mb.es)+G es<=1099511627776/\(G mb.es+G es)*P.bytesOf e<=140737488355328/\
    K (.ms ν) (qN (m.set l J) ν ⟨mb.T.sts es,P.cellsOf e,mb.es++es⟩)
   |.ss l a b=>a=0/\live m l λmb=>mb.T.t=e/\mb.k=P.cellsOf e/\(b<=G mb.es/\¬mb.es=[])/\b+G es<=1099511627776/\(b+G es)*P.bytesOf e<=140737488355328/\
    K (.ms ν) (qN (m.set l J) ν ⟨mb.T.sts es,P.cellsOf e,mb.es.take b++es⟩)
   |.v (.slice J 0 0)=>G es<=1099511627776/\(G es)*P.bytesOf e<=140737488355328/\K (.ms ν) (qN m ν ⟨e,P.cellsOf e,es⟩)
   |_=>False
  |_,_=>False
 |_=>False
theorem run_append_nil{t ty e:D}{i:TypeInfo}(ht:P.underlying t=F (.slice e))(hi:P.info? e=F i)(c:D):
 (Builtin.append_ #[t,t] ty #[.slice J 0 0,.slice J 0 c]).run P w=.ok (.slice J 0 0) w:=by
 simp[Builtin.append_,run_underlying ht,sizeOf,typeInfo,hi,Builtin.lenOf,Builtin.firstCells]
theorem EG{t ty e:D}{i:TypeInfo}(ht:P.underlying t=F (.slice e))(hi:P.info? e=F i)(g:Addr)(n cap c:D)(xW:n<=cap):
 (Builtin.append_ #[t,t] ty #[.slice (F g) n cap,.slice J 0 c]).run P w=.ok (.slice (F g) n cap) w:=by
 simp[Builtin.append_,run_underlying ht,sizeOf,typeInfo,hi,Builtin.lenOf,Builtin.firstCells,xW,storeCells]
theorem D2{es wz:C (C PV)}(BG:0<k){E':Env}{w':World}(hx:Ext w w' E E'){AK news:C Value}(ho:G AK=G es*k)(hn:G news=G wz*k)
 (h1:∀(i:D) (cs:C PV),es[i]?=F cs->G cs=k) (h2:∀(i:D) (cs:C PV),wz[i]?=F cs->G cs=k)
 (r1:∀(i:D) (cs:C PV) (j:D) (p:PV),es[i]?=F cs->cs[j]?=F p->∃u,AK[i*k+j]?=F u/\u.oneCell'=N/\eC w E p u)
 (Aw:∀u∈news,u.oneCell'=N)
 (r2:∀(i:D) (cs:C PV) (j:D) (p:PV),wz[i]?=F cs->cs[j]?=F p->∃u,news[i*k+j]?=F u/\eC w E p u)
 {cur:M Value} (Zn3:cur.toList.take ((G es+G wz)*k)=AK++news):
 (∀(i:D) (cs:C PV),(es++wz)[i]?=F cs->G cs=k)/\∀(i:D) (cs:C PV) (j:D) (p:PV),(es++wz)[i]?=F cs->cs[j]?=F p->∃x,cur[i*k+j]?=F x/\x.oneCell'=N/\eC w' E' p x:=by
 have hlen:∀(i:D) (cs:C PV),(es++wz)[i]?=F cs->G cs=k:=by
  grind
 refine⟨hlen,λi cs j p hi hj=>?_⟩
 have CA:i<G es+G wz:=by grind
 have xg:i*k+j<(G es+G wz)*k:=by
  have:(i+1)*k<=(G es+G wz)*k:=W _ CA
  grind
 have va:cur[i*k+j]?=(AK++news)[i*k+j]?:=by grind
 rw[va]
 rcases Wu i (G es) with h|h
 ·rw[Wz h]at hi
  obtain⟨u,u1,u2,u3⟩:=r1 i cs j p hi hj;exact⟨u,by grind,u2,u3.ext hx⟩
 ·rw[WE h]at hi
  obtain⟨u,u1,u3⟩:=r2 _ cs j p hi hj;have Cz:G AK<=i*k+j:=by
   have:G es*k<=i*k:=W _ h;omega
  refine⟨u,?_,Aw u (VU u1),u3.ext hx⟩;rw[WE Cz,<-u1]
  congr 1
  rw[Nat.sub_mul];have:G es*k<=i*k:=W _ h;omega
theorem Bg{es:C (C PV)}(hu:P.underlying T=F (.slice e))(hz:(pz P e).isSome=N)(CD:∀zc,pz P e=F zc->G zc=P.cellsOf e)(iZ:0<P.cellsOf e)(hlen:∀cs∈es,G cs=P.cellsOf e)
 (hsr:(∃c,y=.slice J 0 c/\es=[])\/∃(a:Addr) (c:D) (news:C Value),y=.slice (F a) (G es) c/\(G news)=G es*P.cellsOf e/\(∀j u,news[j]?=F u->w.cell? (a.add j)=F u)/\(∀u∈news,u.oneCell'=N)/\
  ∀(i:D) (cs:C PV) (j:D) (p:PV),es[i]?=F cs->cs[j]?=F p->∃u,news[i*P.cellsOf e+j]?=F u/\eC w E p u)
 (Gd:G es<=1099511627776) (sN:G es*P.bytesOf e<=140737488355328):
 ∃(B:sx) (w':World),(Builtin.append_ #[T,T] ty #[.slice J 0 0,y]).run P w=.ok B.sv w'/\w'.os=w.os/\w'.tape=w.tape/\w'.output=w.output/\w.heap.size<=w'.heap.size/\(∀b,b<w.heap.size->w'.heap[b]?=w.heap[b]?)/\
  (B.z=R->w.heap.size<=B.b/\B.b<w'.heap.size)/\∀E',Ext w w' E E'->iA w' E' ⟨e,P.cellsOf e,es⟩ B:=by
 obtain⟨zc,hz⟩:=Option.isSome_iff_exists.1 hz;have CD:=CD zc hz;obtain⟨i,z,hi,xB,hc⟩:=DA (w:=w) (E:=E) hz;have his:i.size=P.cellsOf e:=by simp[Program.cellsOf,hi]
 have hib:i.bytes=P.bytesOf e:=by simp[Program.bytesOf,hi]
 have hzs:z.cells.size=P.cellsOf e:=by rw[hc.1,CD]
 have Gf:∀(i:D) (cs:C PV),es[i]?=F cs->G cs=P.cellsOf e:=λi cs h=>hlen cs (VU h)
 have ZmY:es=[]->∀E',iA w E' ⟨e,P.cellsOf e,es⟩ ⟨0,0,0,P.cellsOf e,e,N⟩:=λh0 E'=>
  ⟨rfl,by grind,rfl,iZ,VW _,Ws _,YA,λ_=>h0,λh=>YM,λ_ hT=>by simp⟩
 rcases hsr with⟨c,rfl,h0⟩ |⟨a,c,news,rfl,E3,xW,Aw,hnr⟩
 ·exact⟨⟨0,0,0,P.cellsOf e,e,N⟩,w,run_append_nil hu hi c,rfl,rfl,rfl,VW _,λ_ _=>rfl,λh=>YM,λE' _=>ZmY h0 E'⟩
 ·obtain⟨v',w',kZ,BH,hg,Zmt,zI⟩:=run_append_own_at (P:=P) w 0 T ty e i z (P.cellsOf e) (P.bytesOf e) hu hi xB his hib hzs iZ _ 0 [] (World.ownsRow_nil _ _ _ _) a (G es) c news E3 xW Aw YR YD (Ws _)
  have hold:∀b,b<w.heap.size->w'.heap[b]?=w.heap[b]?:=λb qV=>hg.block b qV (by simp[Value.ownBlock])
  rcases BH.2 with⟨rfl,h0⟩ |⟨g,cap,cur,rfl,hgB,hgh,hgn,hgc,hgs,EY⟩
  ·have h0':es=[]:=List.length_eq_zero_iff.1 YA
   refine⟨⟨0,0,0,P.cellsOf e,e,N⟩,w',kZ,hg.os,hg.tape,hg.output,hg.size,hold,λh=>YM,λE' _=>?_⟩
   exact⟨rfl,by grind,rfl,iZ,VW _,Ws _,YA,λ_=>h0',λh=>YM,λ_ hT=>by simp⟩
  ·simp only[Value.ownBlock]at zI
   have vd:g<w'.heap.size:=(V6.1 hgh).1;simp at EY hgn kZ
   refine⟨⟨g,cap,G es,P.cellsOf e,e,R⟩,w',kZ,hg.os,hg.tape,hg.output,hg.size,hold,λ_=>⟨by grind,vd⟩,λE' xi=>?_⟩
   obtain⟨g1,g2⟩:=D2 (es:=[]) (wz:=es) (k:=P.cellsOf e) iZ xi (AK:=[]) (news:=news) YE E3 YE Gf YE Aw hnr (cur:=cur) YD;exact⟨rfl,rfl,rfl,iZ,hgn,hgc,g1,λh=>YM,λ_=>⟨cur,hgh,hgs,g2⟩,λ_ hT=>by cases hT⟩
theorem Fy(hk:Ok w0 O E w m)(zr:¬E.used ν){es:C (C PV)}{zc:C PV}(hu:P.underlying T=F (.slice e))(hz:pz P e=F zc)(CD:G zc=P.cellsOf e)(iZ:0<P.cellsOf e)
 (ZbS:∀zc',pz P e=F zc'->G zc'=P.cellsOf e) (hlen:∀cs∈es,G cs=P.cellsOf e) (Gf:∀(i:D) (cs:C PV),es[i]?=F cs->G cs=P.cellsOf e)
 (hsr:(∃c,y=.slice J 0 c/\es=[])\/∃(a:Addr) (c:D) (news:C Value),y=.slice (F a) (G es) c/\(G news)=G es*P.cellsOf e/\(∀j u,news[j]?=F u->w.cell? (a.add j)=F u)/\(∀u∈news,u.oneCell'=N)/\
  ∀(i:D) (cs:C PV) (j:D) (p:PV),es[i]?=F cs->cs[j]?=F p->∃u,news[i*P.cellsOf e+j]?=F u/\eC w E p u)
 {B B0:sx} (hB:E.β l=F B) (e1:B0.b=B.b) (e2:B0.z=B.z) {mb:MB} (hb:iA w E mb B0) (hmT:mb.T.t=e) (hmk:mb.k=P.cellsOf e) (Gd:G mb.es+G es<=1099511627776) (sN:(G mb.es+G es)*P.bytesOf e<=140737488355328):
 yc P w0 O E w ν (Builtin.append_ #[T,T] ty #[B0.sv,y]) (.ms ν) (qN (m.set l J) ν ⟨mb.T.sts es,P.cellsOf e,mb.es++es⟩):=by
 have hBk:B0.k=P.cellsOf e:=hb.k.trans hmk;have hBT:B0.T=e:=hb.T.trans hmT
 cases hzB:B0.z with
 |true=>
  have h0:=hb.nil hzB;obtain⟨B',w',kZ,g1,g2,g3,g4,g5,g6,g7⟩:=Bg (w:=w) (E:=E) (ty:=ty) hu YG ZbS iZ hlen hsr YA (by
   simp_all)
  have hmv:=hk.move zr hB ⟨mb.T.sts es,P.cellsOf e,mb.es++es⟩ B' g1 g2 g3 g4 (λb qV _=>g5 b qV) (λxB=>.inr (g6 xB).1) (λxB=>(g6 xB).2) λxi=>by
   rw[h0];exact(g7 _ xi).ZiF ((TK.Pb _ _).trans hmT) λT1 h1=>(Lr h1).2
  refine⟨_,w',_,by rw[show B0.sv=.slice J 0 0 by simp[sx.sv,hzB]];exact kZ,hmv.1,hmv.2,.ms _ _ (.inl rfl) (by unfold sx.sv;split<;>rfl) λB1 Au=>?_,λl hl=>hl.symm⟩
  have:B1=B':=by simpa[Env.move,eq_comm]using Au
  grind
 |false=>
  obtain⟨i,z,hi,xB,hc⟩:=DA (w:=w) (E:=E) hz;have his:i.size=P.cellsOf e:=by simp[Program.cellsOf,hi]
  have hib:i.bytes=P.bytesOf e:=by simp[Program.bytesOf,hi]
  have hzs:z.cells.size=P.cellsOf e:=by rw[hc.1,CD]
  have Zku:B.z=false:=e2.symm.trans hzB;obtain⟨o1,o2,o3⟩:=hk.own l B hB Zku;obtain⟨cells,m1,m2,m3⟩:=hb.mem hzB;rw[hBk]at m2 m3
  have Nj:B0.sv=.slice (F ⟨B0.b,0,J⟩) B0.n B0.c:=by simp[sx.sv,hzB]
  rw[Nj]
  rcases hsr with⟨c,rfl,rfl⟩ |⟨a,c,news,rfl,E3,xW,Aw,hnr⟩
  ·have hmv:=hk.move (w':=w) zr hB ⟨mb.T.sts [],P.cellsOf e,mb.es++[]⟩ B0 rfl rfl rfl (VW _) (λ_ _ _=>rfl) (λ_=>.inl ⟨Zku,e1⟩) (λ_=>YA) λxi=>⟨hBk,by rw[hb.n];simp,hBT.trans ((TK.Pb _ _).trans hmT).symm,hb.pos,hb.nc,hb.cm,by
    intro i cs hi;simp at hi;exact hb.es i cs hi,λh=>YG,λ_=>⟨cells,m1,by simp_all,by
    intro i cs j p hi hj;simp only[Xc]at hi
    obtain⟨x,x1,x2,x3⟩:=m3 i cs j p hi hj;rw[hBk];exact⟨x,x1,x2,x3.ext xi⟩⟩,λT1 hT1 PC i cs j es x hi hj gL hc=>by
    simp only[Xc]at hi
    rw[TK.Pb];exact(hb.key T1 (Lr hT1).1 PC i cs j es x hi hj gL hc).ext xi⟩
   refine⟨_,w,_,EG (w:=w) hu hi _ _ _ c hb.nc,hmv.1,hmv.2,.ms _ _ (.inl rfl) rfl λB' ph=>?_,λl hl=>hl.symm⟩
   have:B'=B0:=by simpa[Env.move,eq_comm]using ph
   simp_all
  ·have Zod:B0.n*P.cellsOf e<=B0.c*P.cellsOf e:=W _ hb.nc
   have pj:w.ownsRow 0 e (P.cellsOf e) (.slice (F ⟨B0.b,0,J⟩) B0.n B0.c) B0.n (cells.toList.take (B0.n*P.cellsOf e)):=
    ⟨by simp_all,.inr ⟨B0.b,B0.c,cells,rfl,Ws _,by simp_all,hb.nc,hb.cm,m2,rfl⟩⟩
   obtain⟨v',w',kZ,BH,hg,Zmt,zI⟩:=run_append_own_at (P:=P) w 0 T ty e i z (P.cellsOf e) (P.bytesOf e) hu hi xB his hib hzs iZ _ B0.n _ pj a (G es) c news E3 xW Aw (by rw[hb.n];unfold maxLen;omega) (by rw[hb.n];omega) (Ws _)
   rcases BH.2 with⟨rfl,_⟩ |⟨g,cap,cur,rfl,hgB,hgh,hgn,hgc,hgs,EY⟩
   ·simp_all
   ·simp only[Value.ownBlock,Y]at zI hg
    have vd:g<w'.heap.size:=(V6.1 hgh).1;have hmv:=hk.move (w':=w') zr hB ⟨mb.T.sts es,P.cellsOf e,mb.es++es⟩ ⟨g,cap,B0.n+G es,P.cellsOf e,e,R⟩ hg.os hg.tape hg.output hg.size
     (λb qV yb=>hg.block b qV YG) (λ_=>by grind) (λ_=>vd) λxi=>by
      obtain⟨g1,g2⟩:=D2 (es:=mb.es) (wz:=es) (k:=P.cellsOf e) iZ xi (AK:=cells.toList.take (B0.n*P.cellsOf e)) (news:=news) (by rw[Wy,W7,<-hb.n];omega) E3
       (λi cs hi=>(hb.es i cs hi).trans hBk) Gf (λi cs j p hi hj=>by
        have EZ:j<P.cellsOf e:=by rw[<-(hb.es i cs hi).trans hBk];grind
        have CA:i<B0.n:=by rw[hb.n];grind
        have bD:i*P.cellsOf e+j<B0.n*P.cellsOf e:=by
         have:(i+1)*P.cellsOf e<=B0.n*P.cellsOf e:=W _ CA
         grind
        grind) Aw hnr (cur:=cur) (by rw[<-hb.n];omega)
      exact⟨rfl,by simp[hb.n],((TK.Pb _ _).trans hmT).symm,iZ,hgn,hgc,g1,λh=>YM,λ_=>⟨cur,hgh,hgs,g2⟩,λT1 hT1 _ i cs j es1 x hi hj gL hc=>by
       obtain⟨hk1,hns⟩:=Lr hT1
       rcases Wu i (G mb.es) with CA|CA
       ·simp only[Wz CA]at hi
        have EZ:j<P.cellsOf e:=by grind
        have bD:i*P.cellsOf e+j<B0.n*P.cellsOf e:=by
         have:(i+1)*P.cellsOf e<=B0.n*P.cellsOf e:=W _ (by rw[hb.n];omega)
         grind
        have Kj:i*P.cellsOf e+j<(B0.n+G es)*P.cellsOf e:=by grind
        rw[cell_of_row w' g _ cur e (0,0) hgh]at hc
        have ta:cells[i*P.cellsOf e+j]?=F x:=by
         have h5:cur.toList[i*P.cellsOf e+j]?=cells.toList[i*P.cellsOf e+j]?:=by
          rw[<-Yr Kj,EY,Wz YG,Yr bD]
         rw[WU,WU]at h5
         rw[<-h5];exact hc
        rw[TK.Pb];exact(hb.key T1 hk1 hzB i cs j es1 x hi hj gL (by rw[cell_of_row w B0.b _ cells B0.T (0,0) m1,hBk];omega)).ext xi
       ·simp only[WE CA]at hi
        exact X (KF (hns cs (VU hi)) hj) gL⟩
    refine⟨_,w',_,kZ,hmv.1,hmv.2,.ms _ _ (.inl rfl) rfl λB' ph=>?_,λl hl=>hl.symm⟩
    have e':B'=⟨g,cap,B0.n+G es,P.cellsOf e,e,R⟩:=by simpa[Env.move,eq_comm]using ph
    subst e';rfl
theorem Ih(hk:Ok w0 O E w m)(zr:¬E.used ν){p q:PV}(hx:eC w E p x)(hy:eC w E q y){K:PV->Mem->Prop}(h:ix P ν m T p q K):
 ∃p m',K p m'/\yc P w0 O E w ν (Builtin.append_ #[T,T] ty #[x,y]) p m':=by
 unfold ix at h
 split at h
 ·rename_i e hu
  split at h
  ·rename_i zc es hz Ay
   obtain⟨CD,iZ,hlen,h⟩:=h;have ZbS:∀zc',pz P e=F zc'->G zc'=P.cellsOf e:=λzc' h'=>by grind
   have Gf:∀(i:D) (cs:C PV),es[i]?=F cs->G cs=P.cellsOf e:=λi cs h=>hlen cs (VU h)
   have hsr:=Zgj hk hy Ay iZ Gf
   split at h
   ·obtain⟨mb,hm,hmT,hmk,Gd,sN,hK⟩:=jR h
    obtain⟨B,hB,hb,rfl⟩:=hx.vp hk hm;exact⟨_,_,hK,Fy hk zr hu hz CD iZ ZbS hlen Gf hsr hB rfl rfl hb hmT hmk Gd sN⟩
   ·rename_i l a b
    obtain⟨rfl,h⟩:=h;obtain⟨mb,hm,hmT,hmk,zY,Gd,sN,hK⟩:=jR h;obtain⟨B,hB,hb,hbn,hxv,A,c,hxs⟩:=hx.S9 hk hm;have Qa:iA w E ⟨mb.T,mb.k,mb.es.take b⟩ ⟨B.b,B.c,b,B.k,B.T,B.z⟩:=hb.part hbn;have Nj:x=(⟨B.b,B.c,b,B.k,B.T,B.z⟩:sx).sv\/B.z=true:=by
     cases hz0:B.z with
     |false=>exact .inl (by rw[hxv hz0];rfl)
     |true=>simp
    rcases Nj with rfl|hz0
    ·exact⟨_,_,hK,Fy (mb:=⟨mb.T,mb.k,mb.es.take b⟩) (B0:=⟨B.b,B.c,b,B.k,B.T,B.z⟩) hk zr hu hz CD iZ ZbS hlen Gf hsr hB rfl rfl Qa hmT hmk YD YD⟩
    ·exact X (hb.nil hz0) zY.2
   ·obtain⟨Gd,sN,hK⟩:=h
    obtain⟨rfl,_⟩:=hx.jw;obtain⟨B',w',kZ,g1,g2,g3,g4,g5,g6,g7⟩:=Bg (w:=w) (E:=E) (ty:=ty) hu YD ZbS iZ hlen hsr Gd sN;have hmv:=hk.new zr ⟨e,P.cellsOf e,es⟩ B' g1 g2 g3 g4 g5 g6 (g7 _);refine⟨_,_,hK,_,w',_,kZ,hmv.1,hmv.2,.ms _ _ (.inl rfl) (by unfold sx.sv;split<;>rfl) λB1 Au=>?_,λl hl=>hl.symm⟩
    have:B1=B':=by simpa[Env.add,eq_comm]using Au
    grind
   grind
  grind
 grind
end
