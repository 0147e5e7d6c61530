/- A part of the proof of this claim's last theorem. No condition. -/
import Derived.Test.YtbjbellffaenaaaGreatDoorCT3
import Derived.Test.YtbjbellffaenaaaGreatDoorChecked
import Derived.Lib.SmallJoins
import Derived.IntWalk
import Derived.Shelf.Strings.Builder1
import Derived.Shelf.Small.Bits
import Derived.Shelf.Small.Strs
import Derived.Shelf.Strconv.Atoi
import Derived.Shelf.Strconv.Itoa0
import Derived.Shelf.Strconv.Itoa1
import Derived.Shelf.LaysM
import Derived.Shelf.Strconv.Itoa2
import Derived.Shelf.Strconv.Itoa3
import Derived.Shelf.Strconv.AtoiErrFast
import Derived.Shelf.Strconv.ParseIntEmpty
import Derived.Shelf.Strconv.AtoiFail
import Derived.Shelf.Strconv.Clone
import Derived.Shelf.Strconv.SyntaxError
import Derived.Shelf.LaysC
import Derived.Shelf.Strconv.ToError
import Derived.Shelf.Strconv.Lower
import Derived.Shelf.Strconv.ParseUint10
import Derived.Shelf.Strconv.ParseUint10Empty
import Derived.Shelf.Strconv.ParseUint10Any
import Derived.Shelf.Strconv.ParseInt10
import Derived.Shelf.Strconv.AtoiLong
import Derived.Shelf.Strconv.AtoiInnerAll
import Derived.Shelf.Strconv.RangeError
import Derived.Shelf.Strconv.ToErrorRange
import Derived.Shelf.Strconv.AtoiAll
import Derived.Shelf.Strings.Search1
import Derived.Shelf.Strings.Search2
import Derived.Shelf.Strings.Search3
import Derived.Shelf.Strings.Cut
import Derived.Shelf.Strings.Count
import Derived.Shelf.Strings.Shaped
import Derived.Shelf.Sort.Plain
import Derived.Ground.GgsProg
import Derived.Shelf.GgSortFunc.Insertion
import Derived.Shelf.GgSortFunc.InsertionK
import Derived.Shelf.GgSortFunc.Tiny
import Derived.Shelf.GgSortFunc.Compose
import Derived.Ground.GgtProg
import Derived.Shelf.GgSortMore.Stable
import Derived.Shelf.Strings.Split
import Derived.Shelf.Bits.Mul64
import Derived.Shelf.Unicode.DecodeSlow
import Derived.Shelf.Slices.In.SortNone
import Derived.Shelf.Slices.In.SortNone2
import Derived.Shelf.GgSortMore.Iface
import Derived.Sort.OwnSortedInts
set_option linter.all false
set_option maxRecDepth 100000
open Go.Value renaming int->Zh
open Go.IntKind renaming i64->Zi
open Go renaming undef->Zj
open Option renaming some->L,none->Zd
open Bool renaming true->Ze,false->Zf
open Decidable renaming decide->Zg
open List renaming length->Zm
open Option renaming bind->Zn
open _root_ renaming Array->Zp,ByteArray->X,List->O,Option->V,cond->Zs,congrArg->D
open Go.Proofs.YtbjbellffaenaaaGreatDoor renaming Mem->Zo,YC->Y,flat->Zq,look->Zr,sig->Zt,vi->Z
open Go.Proofs.Tryz
set_option maxHeartbeats 40000000
open List renaming mem_singleton->Wh,mem_cons->VY,not_mem_nil->V1,getElem?_eq_some_iff->VT,range->Wj,all_eq_true->VZ,length_map->Wi,length_set->Xd,mem_map->WH,set_eq_of_length_le->Ys,replicate->V9,getElem?_map->Wp,take_of_length_le->Xh
open Nat renaming zero_le->Ws,le_trans->Wd,le_refl->VW,lt_of_lt_of_le->Wn,not_lt_zero->Yj
open Option renaming map_eq_some_iff->Wc,bind_some->VR,bind_eq_some_iff->Yh
open Go.Shelf renaming Ren->WN
namespace Go.Proofs.YtbjbellffaenaaaGreatDoor
open Go.RowKit
variable {KR:PV->Prop}{a a2 b b2:Int}{n:Nat}
instance :eE aW:=⟨λx q h=>by simp only[aW,Wh]at h;subst h;rfl⟩
instance :s8 aW:=⟨λx q h=>by simp only[aW,Wh]at h;subst h;rfl⟩
instance :eE jQ:=⟨λx q h=>by simp only[jQ,Wh]at h;subst h;rfl⟩
instance :s8 jQ:=⟨λx q h=>by simp only[jQ,Wh]at h;subst h;rfl⟩
instance :eE FM:=⟨λx q h=>by simp only[FM,Wh]at h;subst h;rfl⟩
instance :s8 FM:=⟨λx q h=>by simp only[FM,Wh]at h;subst h;rfl⟩
structure YB8 where
 v:Int
 deriving DecidableEq
def Zl(x:YB8):O PV:=[v8 x.v]
instance :eo YB8:=⟨Zl⟩
instance :eE Zl:=⟨λx q h=>by simp only[Zl,Wh]at h;subst h;rfl⟩
instance :s8 Zl:=⟨λx q h=>by simp only[Zl,Wh]at h;subst h;rfl⟩
structure bl where
 b:O YB8
 i:Int
 h:Int
 deriving DecidableEq
def FW(x:bl):O PV:=[.sl (x.b.map Zl),Z x.i,Z x.h]
instance :eo bl:=⟨FW⟩
instance :eE FW:=⟨λx q h=>by simp only[FW,VY,V1,or_false]at h;(repeat' (first|(rcases h with rfl|h;rfl) |(subst h;rfl)))⟩
instance :eo bt:=⟨sj⟩
instance :eE sj:=⟨λx q h=>by simp only[sj,VY,V1,or_false]at h;(repeat' (first|(rcases h with rfl|h;rfl) |(subst h;rfl)))⟩
instance :s8 sj:=⟨λx q h=>by simp only[sj,VY,V1,or_false]at h;(repeat' (first|(rcases h with rfl|h;rfl) |(subst h;rfl)))⟩
instance :eo aP:=⟨cd⟩
instance :eE cd:=⟨λx q h=>by simp only[cd,VY,V1,or_false]at h;(repeat' (first|(rcases h with rfl|h;rfl) |(subst h;rfl)))⟩
instance :eo cB:=⟨dV⟩
instance :eE dV:=⟨λx q h=>by simp only[dV,VY,V1,or_false]at h;(repeat' (first|(rcases h with rfl|h;rfl) |(subst h;rfl)))⟩
instance :s8 dV:=⟨λx q h=>by simp only[dV,VY,V1,or_false]at h;(repeat' (first|(rcases h with rfl|h;rfl) |(subst h;rfl)))⟩
instance :eo bH:=⟨dK⟩
instance :eE dK:=⟨λx q h=>by simp only[dK,VY,V1,or_false]at h;(repeat' (first|(rcases h with rfl|h;rfl) |(subst h;rfl)))⟩
instance :s8 dK:=⟨λx q h=>by simp only[dK,VY,V1,or_false]at h;(repeat' (first|(rcases h with rfl|h;rfl) |(subst h;rfl)))⟩
instance :eo bP:=⟨cY⟩
instance :eE cY:=⟨λx q h=>by simp only[cY,VY,V1,or_false]at h;(repeat' (first|(rcases h with rfl|h;rfl) |(subst h;rfl)))⟩
instance :s8 cY:=⟨λx q h=>by simp only[cY,VY,V1,or_false]at h;(repeat' (first|(rcases h with rfl|h;rfl) |(subst h;rfl)))⟩
instance :eo ab:=⟨aT⟩
instance :eE aT:=⟨λx q h=>by simp only[aT,VY,V1,or_false]at h;(repeat' (first|(rcases h with rfl|h;rfl) |(subst h;rfl)))⟩
instance :eo au:=⟨bg⟩
instance :eE bg:=⟨λx q h=>by simp only[bg,VY,V1,or_false]at h;(repeat' (first|(rcases h with rfl|h;rfl) |(subst h;rfl)))⟩
instance :s8 bg:=⟨λx q h=>by simp only[bg,VY,V1,or_false]at h;(repeat' (first|(rcases h with rfl|h;rfl) |(subst h;rfl)))⟩
instance :eo aq:=⟨aG⟩
instance :eE aG:=⟨λx q h=>by simp only[aG,VY,V1,or_false]at h;(repeat' (first|(rcases h with rfl|h;rfl) |(subst h;rfl)))⟩
instance :s8 aG:=⟨λx q h=>by simp only[aG,VY,V1,or_false]at h;(repeat' (first|(rcases h with rfl|h;rfl) |(subst h;rfl)))⟩
instance :eo aI:=⟨bA⟩
instance :eE bA:=⟨λx q h=>by simp only[bA,VY,V1,or_false]at h;(repeat' (first|(rcases h with rfl|h;rfl) |(subst h;rfl)))⟩
instance :s8 bA:=⟨λx q h=>by simp only[bA,VY,V1,or_false]at h;(repeat' (first|(rcases h with rfl|h;rfl) |(subst h;rfl)))⟩
instance :eo ay:=⟨bx⟩
instance :eE bx:=⟨λx q h=>by simp only[bx,VY,V1,or_false]at h;(repeat' (first|(rcases h with rfl|h;rfl) |(subst h;rfl)))⟩
instance :eo aw:=⟨cL⟩
instance :eE cL:=⟨λx q h=>by simp only[cL,VY,V1,or_false]at h;(repeat' (first|(rcases h with rfl|h;rfl) |(subst h;rfl)))⟩
instance :eo bf:=⟨bV⟩
instance :eE bV:=⟨λx q h=>by simp only[bV,VY,V1,or_false]at h;(repeat' (first|(rcases h with rfl|h;rfl) |(subst h;rfl)))⟩
instance :s8 bV:=⟨λx q h=>by simp only[bV,VY,V1,or_false]at h;(repeat' (first|(rcases h with rfl|h;rfl) |(subst h;rfl)))⟩
instance :eo bk:=⟨fQ⟩
instance :eE fQ:=⟨λx q h=>by simp only[fQ,VY,V1,or_false]at h;(repeat' (first|(rcases h with rfl|h;rfl) |(subst h;rfl)))⟩
instance :eo aD:=⟨eD⟩
instance :eE eD:=⟨λx q h=>by simp only[eD,VY,V1,or_false]at h;(repeat' (first|(rcases h with rfl|h;rfl) |(subst h;rfl)))⟩
instance :eo L7:=⟨zW⟩
instance :eE zW:=⟨λx q h=>by simp only[zW,VY,V1,or_false]at h;(repeat' (first|(rcases h with rfl|h;rfl) |(subst h;rfl)))⟩
instance :s8 zW:=⟨λx q h=>by simp only[zW,VY,V1,or_false]at h;(repeat' (first|(rcases h with rfl|h;rfl) |(subst h;rfl)))⟩
instance :eo PL:=⟨CN⟩
instance :eE CN:=⟨λx q h=>by simp only[CN,VY,V1,or_false]at h;(repeat' (first|(rcases h with rfl|h;rfl) |(subst h;rfl)))⟩
instance :eo PM:=⟨CO⟩
instance :eE CO:=⟨λx q h=>by simp only[CO,VY,V1,or_false]at h;(repeat' (first|(rcases h with rfl|h;rfl) |(subst h;rfl)))⟩
instance :eo RS:=⟨Bm⟩
instance :eE Bm:=⟨λx q h=>by simp only[Bm,VY,V1,or_false]at h;(repeat' (first|(rcases h with rfl|h;rfl) |(subst h;rfl)))⟩
instance :eo Zau:=⟨Ap⟩
instance :eE Ap:=⟨λx q h=>by simp only[Ap,VY,V1,or_false]at h;(repeat' (first|(rcases h with rfl|h;rfl) |(subst h;rfl)))⟩
instance :s8 Ap:=⟨λx q h=>by simp only[Ap,VY,V1,or_false]at h;(repeat' (first|(rcases h with rfl|h;rfl) |(subst h;rfl)))⟩
instance :eo A9:=⟨Bl⟩
instance :eE Bl:=⟨λx q h=>by simp only[Bl,VY,V1,or_false]at h;(repeat' (first|(rcases h with rfl|h;rfl) |(subst h;rfl)))⟩
attribute [go_sem] aW jQ FM Zl FW sj cd dV dK cY aT bg aG bA bx cL bV fQ eD zW CN CO Bm Ap Bl eo.c
theorem MS:F2 prog (n+3) 48 [Z a,Z b] [Z a2,Z b2]=L (Zg ((⟨a,b⟩:au)=(⟨a2,b2⟩:au))):=by
 simp only[F2,Tryz.underlying3,Tryz.underlying48,Pk,Program.fieldsOf,go_sem];simp[Pk,tq3]
 try rfl
@[go_sem] theorem ZjK:ya prog .eql 48 [Z a,Z b] [Z a2,Z b2] KR=KR (vb (Zg ((⟨a,b⟩:au)=(⟨a2,b2⟩:au)))):=by unfold ya;rw[show(10000:Nat)=9997+3 from rfl,MS,Tryz.underlying48];simp only[Pk,true_and]
@[go_sem] theorem ZkH:ya prog .neq 48 [Z a,Z b] [Z a2,Z b2] KR=KR (vb (!decide ((⟨a,b⟩:au)=(⟨a2,b2⟩:au)))):=by unfold ya;rw[show(10000:Nat)=9997+3 from rfl,MS,Tryz.underlying48];simp only[Pk,true_and]
theorem DY{a b c d a2 b2 c2 d2:Int}:F2 prog (n+3) 50 [Z a,Z b,Z c,Z d] [Z a2,Z b2,Z c2,Z d2]=L (Zg ((⟨a,⟨b,c⟩,d⟩:aq)=(⟨a2,⟨b2,c2⟩,d2⟩:aq))):=by
 simp only[F2,Tryz.underlying3,Tryz.underlying50,Zgu,Tryz.underlying48,Pk,Program.fieldsOf,go_sem];simp[Zgu,Pk,tq3]
 try rfl
@[go_sem] theorem ZgN{a b c d a2 b2 c2 d2:Int}:ya prog .eql 50 [Z a,Z b,Z c,Z d] [Z a2,Z b2,Z c2,Z d2] KR=KR (vb (Zg ((⟨a,⟨b,c⟩,d⟩:aq)=(⟨a2,⟨b2,c2⟩,d2⟩:aq)))):=by unfold ya;rw[show(10000:Nat)=9997+3 from rfl,DY,Tryz.underlying50];simp only[Zgu,true_and]
@[go_sem] theorem Zg2{a b c d a2 b2 c2 d2:Int}:ya prog .neq 50 [Z a,Z b,Z c,Z d] [Z a2,Z b2,Z c2,Z d2] KR=KR (vb (!decide ((⟨a,⟨b,c⟩,d⟩:aq)=(⟨a2,⟨b2,c2⟩,d2⟩:aq)))):=by unfold ya;rw[show(10000:Nat)=9997+3 from rfl,DY,Tryz.underlying50];simp only[Zgu,true_and]
end Go.Proofs.YtbjbellffaenaaaGreatDoor
namespace Go.Proofs.YtbjbellffaenaaaGreatDoor
open Go.ChangeShapes Go.WideShapes Go.ChangeAt Go.RowKit Go.Deep
def decP_b8:Zhd prog 5 Zl (λx=>0<=x.v/\x.v<=255):=by
 intro H enc w base spare held fuel cs x h;obtain⟨n,rfl,_,hw⟩:=DataW.trod_int Tryz.underlying5 h;refine⟨⟨n⟩,zC rfl (.v _ rfl),?_⟩;simp[Lit.wf,IntKind.min,IntKind.max,IntKind.signed,IntKind.bits]at hw
 exact⟨by show 0<=n;omega,by show n<=255;omega⟩
def cells_b8:prog.cellsOf 5=1:=by kernel_rfl
end Go.Proofs.YtbjbellffaenaaaGreatDoor
namespace Go.Proofs.YtbjbellffaenaaaGreatDoor
open Go.RowKit
variable {KA:PV->Zo->Prop}{KR:PV->Prop}{P:Program}{Q:Exit->O PV->Zo->Prop}{T':TK}{a a2 b b2 e e2:Int}{args cs ds ps t zc:O PV}{d d2 s:X}{draw io:Bool}{es:O (O PV)}{fn:Func}{i j k k' l n n0 wd ν:Nat}{m m' m0 m1:Zo}{ops:Zp Oper}{p:Prop}{rs:O (V Nat)}{α β γ ο:Type}{ρ:Nat->V Nat}{σ:Nat->Nat}{A B:V α}{F:Unit->V α}{G:ο->V β}{J:V (ο⊕α)}{K:α->V β}{M:ο->Zo}{T:ο->O PV}{body:Int->V (Int⊕ο)}{f:α->O PV}{r:β}{x:V (Int⊕ο)}
theorem aV{n:Int}(h:-9223372036854775808<=n/\n<=9223372036854775807):aJ n=n:=IntWalk.i64_in n h
theorem bz(hi:i<n)(hn:n<=1152921504606846976):aJ ((i:Int)+1)=((i+1:Nat):Int):=by
 rw[aV YA];omega
theorem aS{xs:O α}:az xs (i:Int)=xs[i]?:=by
 rfl
theorem oB{b:Bool}(h:b=Ze):cf b=L ():=by subst h;rfl
def w9{A α ο:Type}(F:Nat->A->α->V (A⊕ο))(E:A->V ο):Nat->O α->A->V ο
 |_,[],a=>E a
 |i,x::xs,a=>(F i a x).bind (bj (λa'=>w9 F E (i+1) xs a') L)
theorem IU{A α σ ο:Type}{xs:O α}{body:σ->V (σ⊕ο)}{mk:A->Int->σ}{F:Nat->A->α->V (A⊕ο)}{E:A->V ο}
 (h1:∀a (i:Nat) x,xs[i]?=L x->body (mk a i)=(F i a x).bind (bj (λa'=>L (.inl (mk a' ((i+1:Nat):Int)))) (λr=>L (.inr r))))
 (h2:∀a,body (mk a (Zm xs:Int))=(E a).bind λr=>L (.inr r)):
 ∀(ys:O α) (i:Nat) (N:Nat) (a:A),xs.drop i=ys->i<=Zm xs->Zm ys<N->aB body N (mk a i)=w9 F E i ys a
 | [],i,0,a,_,_,hN=>YA
 | [],i,N+1,a,hd,hi,hN=>by
  have:i=Zm xs:=by grind
  subst this;simp only[aB,w9,h2]
  cases E a<;>rfl
 |y::ys,i,0,a,_,_,hN=>YA
 |y::ys,i,N+1,a,hd,hi,hN=>by
  have hy:xs[i]?=L y:=by
   have:=D (λl=>l[0]?) hd
   grind
  have bD:i<Zm xs:=(VT.1 hy).1;have Cy:xs.drop (i+1)=ys:=by
   have:=D (List.drop 1) hd
   simpa[List.drop_drop]using this
  simp only[aB,w9,h1 a i y hy]
  cases hF:F i a y with
  |none=>rfl
  |some o=>
   cases o with
   |inl a'=>
    show aB body N (mk a' ((i+1:Nat):Int))=w9 F E (i+1) ys a';exact IU h1 h2 ys (i+1) N a' Cy bD YG
   |inr r=>rfl
theorem tz{A α σ ο:Type}{xs:O α}{body:σ->V (σ⊕ο)}{N:Nat}(mk:A->Int->σ)(F:Nat->A->α->V (A⊕ο))(E:A->V ο)
 (h1:∀a (i:Nat) x,xs[i]?=L x->body (mk a i)=(F i a x).bind (bj (λa'=>L (.inl (mk a' ((i+1:Nat):Int)))) (λr=>L (.inr r))))
 (h2:∀a,body (mk a (Zm xs:Int))=(E a).bind λr=>L (.inr r)) (hN:Zm xs<N) (a:A):aB body N (mk a 0)=w9 F E 0 xs a:=
 IU h1 h2 xs 0 N a rfl (Ws _) hN
theorem yD{σ ο:Type}{body:σ->V (σ⊕ο)}(I:Nat->σ->Prop)(hI:∀k s,I k s->∃o,body s=L o/\∀s',o=.inl s'->∃k',k'<k/\I k' s'):∀(N k:Nat) (s:σ),I k s->k<N->∃o,aB body N s=L o
 |0,k,s,_,hN=>YA
 |N+1,k,s,h,hN=>by
  obtain⟨o,hb,hn⟩:=hI k s h;simp only[aB,hb]
  cases o with
  |inr r=>simp
  |inl s'=>
   obtain⟨k',hk,hi⟩:=hn s' rfl;exact yD I hI N k' s' hi YA
theorem BV(hn:n<NN)(h:∀i:Nat,i<n->∃o,body (i:Int)=L o/\∀s',o=.inl s'->s'=((i+1:Nat):Int))(he:∃r,body (n:Int)=L (.inr r)):∃o,aB body NN 0=L o:=by
 refine yD (λk s=>∃i:Nat,i+k=n/\s=(i:Int)) ?_ NN n 0 ⟨0,YA,rfl⟩ hn
 rintro k s ⟨i,hi,rfl⟩
 rcases Nat.lt_or_ge i n with bD|Cz
 ·obtain⟨o,ho,hs⟩:=h i bD
  exact⟨o,ho,λs' e=>⟨k-1,YA,i+1,YA,hs s' e⟩⟩
 grind
theorem Tc(e:x=L (.inl ((i+1:Nat):Int))):∃o,x=L o/\∀s',o=.inl s'->s'=((i+1:Nat):Int):=⟨_,e,by simp⟩
theorem RD{r:ο}(e:x=L (.inr r)):∃o,x=L o/\∀s',o=.inl s'->s'=((i+1:Nat):Int):=⟨_,e,by simp⟩
theorem qB{c:Nat->Bool}{r e:ο}(h1:∀i:Nat,i<n->(∀j,j<i->c j=Ze)->body (i:Int)=L (if c i=Ze then .inl ((i+1:Nat):Int)else .inr r))(h2:(∀j,j<n->c j=Ze)->body (n:Int)=L (.inr e))(hN:n<NN):
 aB body NN 0=L (if(Wj n).all c=Ze then e else r):=by
 have key:∀(k i N:Nat),i+k=n->k<N->(∀j,j<i->c j=Ze)->aB body N (i:Int)=L (if(Wj n).all c=Ze then e else r):=by
  intro k
  induction k with
  |zero=>
   intro i N hi hk hj
   cases N with
   |zero=>omega
   |succ N=>
    have:i=n:=YA;subst this;simp only[aB,h2 hj]
    simp_all
  |succ k ih=>
   intro i N hi hk hj
   cases N with
   |zero=>omega
   |succ N=>
    simp only[aB,h1 i YA hj]
    by_cases hc:c i=Ze
    ·rw[if_pos hc]
     exact ih (i+1) N YA YA (λj H7=>by
      grind)
    grind
 grind
theorem Vp(xs:O α)(p:α->Bool)(c:Nat->Bool)(h:∀i (hi:i<Zm xs),c i=p xs[i]):(Wj (Zm xs)).all c=xs.all p:=by
 rw[Bool.eq_iff_iff,VZ,VZ];constructor
 ·intro H x hx
  obtain⟨i,hi,rfl⟩:=List.getElem_of_mem hx
  simp_all
 simp_all
theorem uS{xs:O α}{p:α->Bool}{r e:ο}(h1:∀i (hi:i<Zm xs),body (i:Int)=L (if p xs[i]=Ze then .inr r else .inl ((i+1:Nat):Int)))(h2:body (Zm xs:Int)=L (.inr e))(hN:Zm xs<NN):
 aB body NN 0=L (if xs.any p=Ze then r else e):=by
 rw[qB (n:=Zm xs) (c:=λi=>(xs[i]?.map λx=>!p x).getD Ze) (r:=r) (e:=e) (λi hi _=>?_) (λ_=>h2) hN,Vp xs (λx=>!p x) _ (λi hi=>by grind)]
 all_goals grind
def Ev(t:O PV)(m:Zo):V Unit:=L ()
theorem tN.trans{t t1 t2:O PV}{m m1 m2:Zo}(h:tN n0 t m t1 m1)(k:tN n0 t1 m1 t2 m2):tN n0 t m t2 m2:=by
 induction h with
 |one h=>exact .two h k
 |two h h' ih=>exact .two h (ih k)
theorem ZfL{t T:O PV}{m M:Zo}
 (H:((Ev T M).bind F).bind K=L r) (hc:tN n0 t m T M) (hk:(F ()).bind K=L r->s7 P n0 (.region i ops draw) Q T M):s7 P n0 (.region i ops draw) Q t m:=by
 rcases hk H with h|⟨t1,m1,h1,h2⟩
 ·exact .inr ⟨T,M,hc,h⟩
 ·exact .inr ⟨t1,m1,hc.trans h1,h2⟩
def rF(wd:Nat)(fl:O Nat):V Unit:=L ()
theorem ZcP{fl:O Nat}{id:Nat}{ops:O Oper}
 (H:((rF wd fl).bind F).bind K=L r) (C9:Zg (0<wd)=Ze) (h1:P.follows .mixedOrders=Ze) (hk:(F ()).bind K=L r->nP P wd (Zm m) fl ops.toArray (Ue ops (Q .normal)) 0 ops [] t m):s7 P n0 (.region id ops.toArray Ze) Q t m:=Vn C9 h1 (hk H)
theorem T8[eE f]{xs:O α}{x:α}{T:TK}(hm:Zr m k=L ⟨T,k',(xs.map f).set n cs⟩)(hc:f x=cs)(hd:dropped (gC rs) m' k):qQ (gC rs) m m' (.ms k) (.sl ((xs.set n x).map f)):=by
 subst hc;refine MC (f:=f) (xs:=xs.set n x) (T:=T) (k':=k') ?_ hd
 simp_all
theorem Za4[eE f]{xs:O α}{k k' A B:Nat}{T:TK}(hm:Zr m k=L ⟨T,k',xs.map f⟩)(hA:A=a.toNat)(hB:B=b.toNat)(hd:dropped (gC rs) m' k):qQ (gC rs) m m' (.ss k A B) (.sl ((da xs a b).map f)):=by
 subst hA hB;have:=qQ.fss (ρ:=gC rs) (m:=m) (m':=m') k a.toNat b.toNat ⟨T,k',xs.map f⟩ (kj.1 hm) Ci hd
 simpa only[BA,Cu,da]using this
def zU{α:Type}(xs:O α)(i:Int):V α:=az xs i
theorem rgH{xs:O α}{i:Int}{F:α->V β}{K:β->V γ}{r:γ}(H:((zU xs i).bind F).bind K=L r):∃x,az xs i=L x/\(F x).bind K=L r:=Fj H
theorem Ko{xs:O α}{x:α}{i:Int}(h:az xs i=L x):((xs.map f).set i.toNat cs)[i.toNat]?=L cs:=by
 rw[List.getElem?_set_self];have:=(VT.1 (ky h).2).1
 simp_all
theorem ZbW[eo α]{xs:O α}{x:α}{T:TypeId}{i:Int}{k:IntKind}(h:az xs i=L x)(hm:Zr m l=L ⟨T',k',(xs.map eo.c).set n cs⟩)(hp:0<lK P T)(hk:k'=lK P T)(hK:KR (.be l i.toNat 0)):dh P m T (.ms l) (.v (.int k i)) KR:=by
 obtain⟨h1,h2,h3⟩:=Ke h;obtain⟨e,hu,he⟩:=wJ hp;rw[he]at hk
 simp only[dh,hu,oC,hm,Wi,Xd]
 simp_all
attribute [go_sem] Xd List.set_set
def Ew{α:Type}(x:α)(t:α->O PV)(m:α->Zo):V α:=L x
theorem ZcR{ξ α β:Type}{x:ξ}{T:ξ->O PV}{M:ξ->Zo}{F:ξ->V α}{K:α->V β}{r:β}
 (H:((Ew x T M).bind F).bind K=L r) (hc:tN n0 t m (T x) (M x)) (hk:∀z,(F z).bind K=L r->s7 P n0 (.region i ops draw) Q (T z) (M z)):s7 P n0 (.region i ops draw) Q t m:=by
 rcases hk x H with h|⟨t1,m1,h1,h2⟩
 ·exact .inr ⟨T x,M x,hc,h⟩
 ·exact .inr ⟨t1,m1,hc.trans h1,h2⟩
def bw(ρ:O Nat):V Unit:=L ()
theorem Zeb{R α β:Type}{ρ:O Nat}{A:V R}[C:CT P A]{F:Unit->V α}{G:R->V α}{K:α->V β}{r:β}{f:FuncId}
 (H:((bw ρ).bind F).bind K=L r) (hF:F ()=A.bind G) (hf:C.f=f) (LP:io=Ze) (Qj:ps=C.args.map (Cg (Zt ρ ν))) (hq:∀q∈C.args,vP Zf q/\Kx (Zm C.m0) q=Ze) (hn:ρ.Nodup) (xg:ru (Zt ρ ν) m (Zm C.m0) ρ C.m0)
 (hlen:∀y,Zm C.m0<=Zm (C.mem y)/\(Zm (C.mem y))-Zm C.m0<=wd) (hm:∀y,∀mb,L mb∈C.mem y->∀cs∈mb.es,∀p∈cs,fC Zf p) (hg:∀y,s9 Zf (C.res y))
 (hk:∀y,A=L y->(G y).bind K=L r->KA (Ch (Zt ρ ν) (C.res y)) (kN (Zt ρ ν) ν ((C.mem y).drop (Zm ρ)) (qO (Zt ρ ν) ρ (C.mem y) m))):rN P io wd ν f ps m KA:=by
 have H':(F ()).bind K=L r:=H;rw[hF]at H'
 obtain⟨y,hy,H2⟩:=Fj H';subst hf;exact .inr ⟨ρ,C.m0,C.args,C.res y,C.mem y,.inl LP,C.ok hy,(hlen y).1,(hlen y).2,Qj,hq,hn,xg,hm y,hg y,hk y hy H2⟩
theorem ZaO{R α β:Type}{ρ:O Nat}{A:V R}[C:CT P A]{F:Unit->V α}{G:R->V α}{K:α->V β}{r:β}{f:FuncId}{KA:O Nat->PV->Zo->Prop}
 (H:((bw ρ).bind F).bind K=L r) (hF:F ()=A.bind G) (hf:C.f=f) (Qj:ps=C.args.map (Cg (Zt ρ ν))) (hq:∀q∈C.args,vP Zf q/\Kx (Zm C.m0) q=Ze) (hn:ρ.Nodup) (xg:ru (Zt ρ ν) m (Zm C.m0) ρ C.m0)
 (hlen:∀y,Zm C.m0<=Zm (C.mem y)/\(Zm (C.mem y))-Zm C.m0<=wd) (hm:∀y,∀mb,L mb∈C.mem y->∀cs∈mb.es,∀p∈cs,fC Zf p) (hg:∀y,s9 Zf (C.res y))
 (hk:∀y,A=L y->(G y).bind K=L r->KA ρ (Ch (Zt ρ ν) (C.res y)) (kN (Zt ρ ν) ν ((C.mem y).drop (Zm ρ)) (qO (Zt ρ ν) ρ (C.mem y) m))):pIO P wd ν f ps m KA:=by
 have H':(F ()).bind K=L r:=H;rw[hF]at H'
 obtain⟨y,hy,H2⟩:=Fj H';subst hf;exact⟨ρ,C.m0,C.args,C.res y,C.mem y,C.ok hy,(hlen y).1,(hlen y).2,Qj,hq,hn,xg,hm y,hg y,hk y hy H2⟩
def Zal:Prop:=True
theorem ZkZ{ρ:O Nat}(H:((bw ρ).bind F).bind K=L r):Zal:=trivial
theorem Zna{f:FuncId}(h:Zal)(hk:rN P io wd ν f ps m KA):rN P io wd ν f ps m KA:=hk
theorem Zk0{f:FuncId}{KA:O Nat->PV->Zo->Prop}(h:Zal)(hk:pIO P wd ν f ps m KA):pIO P wd ν f ps m KA:=hk
theorem Qq:ru σ m n [] []:=trivial
theorem Zci{p:PV}(h:uQ p=Ze):AD n p=true:=by
 cases p with
 |fn f cs=>
  simp only[uQ,VZ]at h
  simp only[AD,VZ];intro c hc;have:=h c hc
  cases c<;>simp_all[wP,EA]
 |_=>simp_all[uQ,wP,AD,EA]
theorem Qp[hf:eE f]{T:TK}{xs:O α}{ρ:O Nat}(hl:Zr m l=L ⟨T,k,xs.map f⟩)(h:ru σ m n ρ m0):ru σ m n (l::ρ) (L ⟨T,k,xs.map f⟩::m0):=by
 refine⟨?_,λcs tv p hp=>?_,h⟩
 ·rw[kj.1 hl]
  simp only[o5,Jk]
 ·obtain⟨x,_,rfl⟩:=WH.1 tv
  exact⟨wN (hf.h x p hp),Zci (hf.h x p hp)⟩
theorem Qr{T:TK}{cs rW:O PV}{ρ:O Nat}(hl:Zr m l=L ⟨T,k,[rW]⟩)(hc:rW=cs.map (uH σ))(hg:∀p∈cs,fC Zf p/\AD n p=Ze)(h:ru σ m n ρ m0):ru σ m n (l::ρ) (L ⟨T,k,[cs]⟩::m0):=by
 subst hc;refine⟨kj.1 hl,λds hds p hp=>?_,h⟩
 simp_all
@[irreducible] def jn{ο α:Type}(i j:Nat)(J:V (ο⊕α))(T:ο->O PV)(M:ο->Zo):V (ο⊕α):=J
def hdC:Code->Bool
 |.region _ _ _=>Ze
 |.loop _=>Ze
 |.seq a _=>hdC a
 |.block _ c=>hdC c
 |_=>Zf
def idC:Code->Nat
 |.region i _ _=>i
 |.loop c=>idC c
 |.seq a _=>idC a
 |.block _ c=>idC c
 |_=>0
theorem GZ{P:Program}{n0:Nat}:∀(c:Code),hdC c=Ze->∀{Q:Exit->O PV->Zo->Prop} {t T:O PV} {m M:Zo},tN n0 t m T M->s7 P n0 c Q T M->s7 P n0 c Q t m
 |.region i ops draw,_,Q,t,T,m,M,hc,h=>by
  rcases h with h|⟨t1,m1,h1,h2⟩
  ·exact .inr ⟨T,M,hc,h⟩
  ·exact .inr ⟨t1,m1,hc.trans h1,h2⟩
 |.loop c,_,Q,t,T,m,M,hc,h=>by
  obtain⟨I,n,t0,m0,h1,h2⟩:=h;exact⟨I,n,t0,m0,hc.trans h1,h2⟩
 |.seq a b,hd,Q,t,T,m,M,hc,h=>GZ a hd hc h
 |.block i c,hd,Q,t,T,m,M,hc,h=>GZ c hd hc h
theorem ZcS{a b:Code}{F:α->V β}{K:β->V γ}{r:γ}
 (H:((jn i j J T M).bind (bj G F)).bind K=L r) (hd:hdC b=Ze) (hi:(idC a==i&&idC b==j)=Ze)
 (h1:∀K':O PV->Zo->Prop,(∀o t' m',(G o).bind K=L r->tN n0 t' m' (T o) (M o)->K' t' m')->J.bind (bj (λo=>(G o).bind K) (λv=>(F v).bind K))=L r->s7 P n0 a (ub K' Q) t m)
 (h2:∀o,(G o).bind K=L r->s7 P n0 b Q (T o) (M o)):s7 P n0 (.seq a b) Q t m:=by
 unfold jn at H
 refine h1 (λt m=>s7 P n0 b Q t m) (λo t' m' h hc=>GZ b hd hc (h2 o h)) ?_
 grind
theorem jnX{s:ο}{F:ο->V β}{Kp:O PV->Zo->Prop}(H:(L (Sum.inl s)).bind (bj F K)=L r)(hL:∀o t' m',F o=L r->tN n0 t' m' (T o) (M o)->Kp t' m')(hc:tN n0 t m (T s) (M s)):Kp t m:=hL s t m H hc
def Zje:Prop:=True
theorem jnH{G:(ο⊕α)->V β}{K:β->V γ}{r:γ}(H:((jn i j J T M).bind G).bind K=L r):Zje:=trivial
theorem jnS{a b:Code}(h:Zje)(hk:s7 P n0 (.seq a b) Q t m):s7 P n0 (.seq a b) Q t m:=hk
theorem Ph{K K2:O PV->Zo->Prop}:ub K (ub K2 Q)=ub K Q:=by
 funext e t m
 cases e<;>rfl
theorem Vk{a b c:Code}(h:s7 P n0 (.seq (.seq a b) c) Q t m):s7 P n0 (.seq a (.seq b c)) Q t m:=by
 have e:s7 P n0 (.seq (.seq a b) c) Q t m=s7 P n0 a (ub (λt m=>s7 P n0 b (ub (λt m=>s7 P n0 c Q t m) Q) t m) (ub (λt m=>s7 P n0 c Q t m) Q)) t m:=by rfl
 rw[e,Ph]at h
 simp only[s7];exact h
theorem ZfM{a b c:Code}{F:α->V β}{K:β->V γ}{r:γ}
 (H:((jn i j J T M).bind (bj G F)).bind K=L r) (hd:hdC c=Ze) (hi:(idC a==i&&idC c==j)=Ze)
 (h1:∀K':O PV->Zo->Prop,(∀o t' m',(G o).bind K=L r->tN n0 t' m' (T o) (M o)->K' t' m')->J.bind (bj (λo=>(G o).bind K) (λv=>(F v).bind K))=L r->s7 P n0 (.seq a b) (ub K' Q) t m)
 (h2:∀o,(G o).bind K=L r->s7 P n0 c Q (T o) (M o)):s7 P n0 (.seq a (.seq b c)) Q t m:=Vk (ZcS H hd hi h1 h2)
inductive yf:PV->PV->Prop
 |r (p:PV):yf p p
 |nil (c:Nat):yf (.v (.slice Zd 0 c)) (.sl [])
 |un (p:PV):yf p .un
inductive Er:O PV->O PV->Prop
 |n:Er [] []
 |c {p q:PV} {ps qs:O PV} (h:yf p q) (k:Er ps qs):Er (p::ps) (q::qs)
inductive Fq:PV->PV->Prop
 |c {p q:PV} (h:yf p q):Fq p q
 |ag {cs ds:O PV} (h:Er cs ds):Fq (.ag cs) (.ag ds)
inductive Ep:O PV->O PV->Prop
 |n:Ep [] []
 |c {p q:PV} {ps qs:O PV} (h:Fq p q) (k:Ep ps qs):Ep (p::ps) (q::qs)
theorem yf.rep{w:World}{E:Env}{p q:PV}{x:Value}(h:yf p q)(hr:eC w E p x):eC w E q x:=by
 cases h with
 |r=>omega
 |nil c=>
  cases hr with
  |c h=>cases h with
   |v _ _=>exact .c (.nil Zd c)
 |un=>exact .c (.un x)
theorem Er.len(h:Er cs ds):Zm cs=Zm ds:=by
 induction h with
 |n=>rfl
 |c _ _ ih=>grind
theorem Er.get(h:Er cs ds):∀(j:Nat) (q:PV),ds[j]?=L q->∃p,cs[j]?=L p/\yf p q:=by
 induction h with
 |n=>simp
 |c h k ih=>
  grind
theorem Fq.rep{w:World}{E:Env}{p q:PV}{x:Value}(h:Fq p q)(hr:eC w E p x):eC w E q x:=by
 cases h with
 |c h=>exact h.rep hr
 |ag h=>
  obtain⟨vs,rfl,hl,h1,hc⟩:=eC.si hr;exact .ag _ vs (by rw[hl,h.len]) h1 λj p y hp hy=>by
   obtain⟨p',hp',hs⟩:=h.get j p hp;exact hs.rep (hc j p' y hp' hy)
theorem Ep.len(h:Ep cs ds):Zm cs=Zm ds:=by
 induction h with
 |n=>rfl
 |c _ _ ih=>grind
theorem Ep.get(h:Ep cs ds):∀(j:Nat) (q:PV),ds[j]?=L q->∃p,cs[j]?=L p/\Fq p q:=by
 induction h with
 |n=>simp
 |c h k ih=>
  grind
theorem eh.Zle{f:FuncId}{ps qs:O PV}{r:PV}(h:eh P f qs m0 r m1)(hs:Ep ps qs):eh P f ps m0 r m1:=by
 intro S β w vs ω hok hl ha;refine h S β w vs ω hok (by rw[hl,hs.len]) λi q hq=>?_
 obtain⟨p,hp,hv⟩:=hs.get i q hq;obtain⟨x,hx,hr⟩:=ha i p hp;exact⟨x,hx,hv.rep hr⟩
def ZeS:PV->Bool
 |.ms _=>Ze
 |p=>uQ p
def ZgX:PV->Bool
 |.ag cs=>cs.all ZeS
 |.tu _=>Zf
 |p=>ZeS p
theorem M4{p:PV}(h:ZeS p=Ze):fC Zf p:=by
 cases p with
 |ms l=>simp[fC]
 |_=>exact wN h
theorem ZhM(h:cs.all ZeS=Ze):s9 Zf (.ag cs):=λc hc=>M4 (VZ.1 h c hc)
theorem ZhN(h:ps.all ZgX=Ze):s9 Zf (.tu ps):=by
 intro c hc;have:=VZ.1 h c hc
 cases c with
 |ag cs=>exact λd hd=>M4 (VZ.1 this d hd)
 |tu vs=>simp[ZgX]at this
 |fn f cs=>exact wN (c:=.fn f cs) this
 |_=>simp[vP,fC]
theorem MD{c:Nat}:qQ ρ m m' (.v (.slice Zd 0 c)) (.sl []):=.SB c
theorem OP{rs rr:O (V Nat)}{T:TK}{mm:Zo}(hk:Zg (0<k)=Ze)(h:qj rs m m' rr mm):qj rs m m' (Zd::rr) (L ⟨T,k,[]⟩::mm):=⟨⟨rfl,Yu hk⟩,h⟩
theorem Zik:yI 0 i rs m=true:=rfl
theorem Zil{mb:MB}(h:yI n (i+1) rs m=Ze):yI (n+1) i (L i::rs) (L mb::m)=true:=by simp[yI,h]
theorem Zim(h:yI n (i+1) rs m=Ze):yI (n+1) i (Zd::rs) (Zd::m)=true:=by simpa[yI]using h
theorem tS{b:Bool}{T:TK}(h:∀cs∈es,∀p∈cs,fC b p):∀mb,L mb∈([L ⟨T,k,es⟩]:Zo)->∀cs∈mb.es,∀p∈cs,fC b p:=by
 grind
theorem Sl{b:Bool}(h2:∀mb,L mb∈m->∀cs∈mb.es,∀p∈cs,fC b p):∀mb,L mb∈((Zd:V MB)::m)->∀cs∈mb.es,∀p∈cs,fC b p:=by
 grind
theorem Zkf{T:TK}{b:Bool}:∀mb,L mb∈([L ⟨T,k,[]⟩]:Zo)->∀cs∈mb.es,∀p∈cs,fC b p:=tS YE
theorem Zjd(h:(Zd:V α).bind K=L r):False:=by cases h
theorem IG{c c2:X}:F2 prog (n+3) 56 [Z a,Z b,vs c] [Z a2,Z b2,vs c2]=L (Zg ((⟨a,b,c⟩:bt)=(⟨a2,b2,c2⟩:bt))):=by
 simp only[F2,Tryz.underlying3,Tryz.underlying56,Zgv,Tryz.underlying9,Program.fieldsOf,go_sem];simp[Zgv,tq3,tq9];rw[baB];rfl
@[go_sem] theorem Zi4{c c2:X}:ya prog .eql 56 [Z a,Z b,vs c] [Z a2,Z b2,vs c2] KR=KR (vb (Zg ((⟨a,b,c⟩:bt)=(⟨a2,b2,c2⟩:bt)))):=by unfold ya;rw[show(10000:Nat)=9997+3 from rfl,IG,Tryz.underlying56];simp only[Zgv,true_and]
@[go_sem] theorem Zi5{c c2:X}:ya prog .neq 56 [Z a,Z b,vs c] [Z a2,Z b2,vs c2] KR=KR (vb (!decide ((⟨a,b,c⟩:bt)=(⟨a2,b2,c2⟩:bt)))):=by unfold ya;rw[show(10000:Nat)=9997+3 from rfl,IG,Tryz.underlying56];simp only[Zgv,true_and]
theorem Sc{a a2:X}{b b2:X}{c c2:Int}{d d2:Int}{f f2:Int}:F2 prog (n+3) 101 [vs a,vs b,Z c,Z d,Z e,Z f] [vs a2,vs b2,Z c2,Z d2,Z e2,Z f2]=L (Zg ((⟨a,b,c,d,e,f⟩:bP)=(⟨a2,b2,c2,d2,e2,f2⟩:bP))):=by
 simp only[F2,Tryz.underlying3,Tryz.underlying101,Tn,Tryz.underlying9,Program.fieldsOf,go_sem];simp[Tn,tq3,tq9,baB];rfl
@[go_sem] theorem Zlu{a a2:X}{b b2:X}{c c2:Int}{d d2:Int}{f f2:Int}:ya prog .eql 101 [vs a,vs b,Z c,Z d,Z e,Z f] [vs a2,vs b2,Z c2,Z d2,Z e2,Z f2] KR=KR (vb (Zg ((⟨a,b,c,d,e,f⟩:bP)=(⟨a2,b2,c2,d2,e2,f2⟩:bP)))):=by unfold ya;rw[show(10000:Nat)=9997+3 from rfl,Sc,Tryz.underlying101];simp only[Tn,true_and]
@[go_sem] theorem Zlw{a a2:X}{b b2:X}{c c2:Int}{d d2:Int}{f f2:Int}:ya prog .neq 101 [vs a,vs b,Z c,Z d,Z e,Z f] [vs a2,vs b2,Z c2,Z d2,Z e2,Z f2] KR=KR (vb (!decide ((⟨a,b,c,d,e,f⟩:bP)=(⟨a2,b2,c2,d2,e2,f2⟩:bP)))):=by unfold ya;rw[show(10000:Nat)=9997+3 from rfl,Sc,Tryz.underlying101];simp only[Tn,true_and]
theorem MR{c c2:Int}{f f2:Int}:F2 prog (n+3) 89 [Z a,Z b,Z c,vs d,Z e,Z f] [Z a2,Z b2,Z c2,vs d2,Z e2,Z f2]=L (Zg ((⟨a,b,c,d,⟨e,f⟩⟩:aI)=(⟨a2,b2,c2,d2,⟨e2,f2⟩⟩:aI))):=by
 simp only[F2,Tryz.underlying3,Tryz.underlying89,Zgx,Tryz.underlying48,Pk,Tryz.underlying9,Program.fieldsOf,go_sem];simp[Zgx,Pk,tq3,tq9,baB];rfl
@[go_sem] theorem ZjJ{c c2:Int}{f f2:Int}:ya prog .eql 89 [Z a,Z b,Z c,vs d,Z e,Z f] [Z a2,Z b2,Z c2,vs d2,Z e2,Z f2] KR=KR (vb (Zg ((⟨a,b,c,d,⟨e,f⟩⟩:aI)=(⟨a2,b2,c2,d2,⟨e2,f2⟩⟩:aI)))):=by unfold ya;rw[show(10000:Nat)=9997+3 from rfl,MR,Tryz.underlying89];simp only[Zgx,true_and]
@[go_sem] theorem ZkG{c c2:Int}{f f2:Int}:ya prog .neq 89 [Z a,Z b,Z c,vs d,Z e,Z f] [Z a2,Z b2,Z c2,vs d2,Z e2,Z f2] KR=KR (vb (!decide ((⟨a,b,c,d,⟨e,f⟩⟩:aI)=(⟨a2,b2,c2,d2,⟨e2,f2⟩⟩:aI)))):=by unfold ya;rw[show(10000:Nat)=9997+3 from rfl,MR,Tryz.underlying89];simp only[Zgx,true_and]
theorem Za3{f:FuncId}(h:tQ ρ m m' cs ds):qQ ρ m m' (.fn f cs) (.fn f ds):=by
 have key:∀(cs ds:O PV),tQ ρ m m' cs ds->Zm ds=Zm cs/\∀(j:Nat) (p r:PV),cs[j]?=L p->ds[j]?=L r->qQ ρ m m' p r:=by
  intro cs
  induction cs with
  |nil=>intro ds h;cases ds with
   |nil=>simp
   |cons d ds=>exact h.elim
  |cons c cs ih=>intro ds h;cases ds with
   |nil=>exact h.elim
   |cons d ds=>
    obtain⟨h1,h2⟩:=h
    grind
 obtain⟨a,b⟩:=key cs ds h;exact .fn f cs ds a b
theorem Sq{xs:O α}{y:α}{c:α->O PV}(h:az xs (n:Int)=L y):(xs.map c)[n]?=L (c y):=by
 unfold az at h
 simp_all
theorem ZkA{a b c i y:Int}(h:az [a,b,c] i=L y):([[PV.v (Zh Zi a)],[PV.v (Zh Zi b)],[PV.v (Zh Zi c)]]:O (O PV))[i.toNat]?=L [PV.v (Zh Zi y)]:=by
 have:([[PV.v (Zh Zi a)],[PV.v (Zh Zi b)],[PV.v (Zh Zi c)]]:O (O PV))=[a,b,c].map aW:=rfl;rw[this];exact Da h
theorem Zg0{a b c y:X}{i:Int}(h:az [a,b,c] i=L y):([[PV.v (.string a)],[PV.v (.string b)],[PV.v (.string c)]]:O (O PV))[i.toNat]?=L [PV.v (.string y)]:=by
 have:([[PV.v (.string a)],[PV.v (.string b)],[PV.v (.string c)]]:O (O PV))=[a,b,c].map jQ:=rfl;rw[this];exact Da h
theorem Zfv{f:FuncId}{K:PV->Zo->Prop}(h1:∀c∈cs,Gq c=Ze)(h2:wk P f)(h3:rN P io wd ν f (ps++cs) m K):Zfu P io wd ν (.fn f cs) ps m K:=⟨h1,h2,h3⟩
def DS(x:O Int):O PV:=[.sl (x.map aW)]
instance :eo (O Int):=⟨DS⟩
instance :eE DS:=⟨λx q h=>by simp only[DS,Wh]at h;subst h;rfl⟩
attribute [go_sem] DS
theorem xf(h:p:=by(first|exact ZbK|(repeat(first|exact Kk|exact E0|exact Zkf|(refine Uq Kk ?_) |(refine Uq E0 ?_) |(refine Uq Zkf ?_) |exact tS (by simp[fC,Gq]) |(refine Sl ?_) |(refine Uq (tS (by simp[fC,Gq])) ?_))));(first|done|fail)):p:=h
theorem xs(h:p:=by((refine eh.Zle (CT.ok hy) ?_);(repeat' (first|exact Ep.n|(refine Ep.c ?_ ?_) |exact Fq.c (yf.r _) |(refine Fq.ag ?_) |exact Er.n|(refine Er.c ?_ ?_) |exact yf.r _|exact yf.nil _|exact yf.un _)));(first|done|fail)):p:=h
theorem ZbU{n i:Int}{F:α->V β}{T:TypeId}{k:IntKind}(H:(Zs (Zg (i=n)) A B).bind F=L r)(h1:A.bind F=L r->dh P m T (.ms l) (.v (.int k n)) KR)(h2:B.bind F=L r->dh P m T (.ms l) (.v (.int k i)) KR):dh P m T (.ms l) (.v (.int k i)) KR:=by
 grind
theorem Za5{T:TK}(hm:Zr m k=L ⟨T,k',es⟩)(hc:(es.all λcs=>cs.all uQ)=Ze)(hd:dropped (gC rs) m' k):qQ (gC rs) m m' (.ms k) (.sl es):=
 .fms k ⟨T,k',es⟩ (kj.1 hm) (λcs h q hq=>VZ.1 (VZ.1 hc cs h) q hq) hd
theorem ZeO{T:TypeId}{k:IntKind}{n:Int}(hm:Zr m l=L ⟨T',k',es⟩)(hn:Zg (0<=n/\n<Zm es)=Ze)(hp:0<lK P T)(hk:k'=lK P T)(hK:KR (.be l n.toNat 0)):dh P m T (.ms l) (.v (.int k n)) KR:=by
 obtain⟨e,hu,he⟩:=wJ hp;rw[he]at hk
 have hn:=Yu hn;simp only[dh,hu,oC,hm]
 simp_all
@[go_sem] theorem Zi6{s d:TypeId}{K:PV->Prop}:uh P m s d (.ms l) K=(match P.underlying s,P.underlying d with
 |some (.slice e),L .string=>P.underlying e=L (.int .u8)/\live m l λmb=>mb.k=1/\match wh mb.es with
  |some ns=>K (.v (.string (strOfNums ns)))
  |none=>False
 |_,_=>False):=fe rfl
@[go_sem] theorem Zjt:wh []=L []:=fe rfl
@[go_sem] theorem Zjs{n:Int}:wh ([.v (.int .u8 n)]::es)=(wh es).map (n::·):=fe rfl
def ZgI(n:Nat)(hi:Int)(ny b:Nat):Bool:=Zg (0<=hi/\hi<=(n:Int)/\0<n)&&bn (n+ny) b
theorem Zd4[eo α]{xs ys:O α}{T:TypeId}{ν l e k n b A B:Nat}{hi:Int}{x:PV}(hok:ZgI (Zm xs) hi (Zm ys) b=Ze)(hu:P.underlying T=L (.slice e))(hz:pz P e=L zc)(hb:P.bytesOf e=b)(hc:P.cellsOf e=n)(hl:Zr m l=L ⟨e,k,xs.map eo.c⟩)(Ay:rR m x=L (ys.map eo.c))
 (CD:Zm zc=n) (hp:Zg (0<n)=Ze) (hf:∀x:α,Zm (eo.c x)=n) (hk:k=n) (hA:A=0) (hB:B=hi.toNat) (hK:KA (.ms ν) (qN (m.set l Zd) ν ⟨e,k,(da xs 0 hi++ys).map eo.c⟩)):ix P ν m T (.ss l A B) x KA:=by
 subst hb hc hA hB hk;unfold ZgI at hok
 rw[Bool.and_eq_true]at hok
 obtain⟨h1,h2⟩:=hok;have h1:=Yu h1;have h2:=Yu h2;have gL:¬xs.map eo.c=[]:=λh=>by simp_all
 have hle:hi.toNat<=Zm xs:=YA;simp only[ix,hu,hz,Ay,oC,hl,Wi];refine⟨CD,Yu hp,λcs tv=>?_,trivial,rfl,trivial,⟨hle,gL⟩,YA,?_,?_⟩
 ·grind
 ·exact Wd (Nat.mul_le_mul_right _ YA) h2.2
 ·have e1:List.take hi.toNat (xs.map eo.c)++ys.map eo.c=(da xs 0 hi++ys).map eo.c:=by
   unfold da;simp
  simp_all
theorem Zd2[eo α]{xs ys:O α}{T:TypeId}{ν l e k n b:Nat}{x:PV}(hok:bn (Zm xs+Zm ys) b=Ze)(hy:Zm ys=1)(hu:P.underlying T=L (.slice e))(hz:pz P e=L zc)(hb:P.bytesOf e=b)(hc:P.cellsOf e=n)(hl:Zr m l=L ⟨e,k,xs.map eo.c⟩)(Ay:rR m x=L [cs])
 (vD:Zm cs=n) (CD:Zm zc=n) (hp:Zg (0<n)=Ze) (hk:k=n) (hK:KA (.ms ν) (qN (m.set l Zd) ν ⟨e,k,xs.map eo.c++[cs]⟩)):ix P ν m T (.ms l) x KA:=by
 subst hk;subst hb;have wO:=Yu hok;rw[hy]at wO
 simp only[ix,hu,hz,Ay,oC,hl,Wi,List.length_cons,List.length_nil,hc]
 simp_all
theorem ZaP{f:FuncId}{r:PV}(hs:Cl m ps (λqs=>eh P f qs [] r m1))(hw:Zm m1<=wd)(hm:∀mb,L mb∈m1->∀cs∈mb.es,∀p∈cs,fC Ze p\/mb.T.kd.isSome=Ze/\yE p=Ze)(hg:s9 Ze r)(hK:KA (Ch (Zt [] ν) r) (kN (Zt [] ν) ν m1 m)):rN P io wd ν f ps m KA:=
 .inl ⟨r,m1,hs,hw,hm,hg,hK⟩
class ZdO{α:Type}(f:α->O PV):Prop where
 h:∀x,∀q∈f x,Nz q=Ze\/yE q=Ze
theorem wQ[hf:s8 f]{xs:O α}:yE (.sl (xs.map f))=true:=by
 simp only[yE,VZ];intro cs tv p hp;obtain⟨x,_,rfl⟩:=WH.1 tv;exact hf.h x p hp
instance :ZdO bx:=⟨λx q h=>by simp only[bx,VY,V1,or_false]at h;(repeat' (first|(rcases h with rfl|h;first|exact .inl rfl|exact .inr wQ) |(subst h;first|exact .inl rfl|exact .inr wQ)))⟩
instance :ZdO cd:=⟨λx q h=>by simp only[cd,VY,V1,or_false]at h;(repeat' (first|(rcases h with rfl|h;first|exact .inl rfl|exact .inr wQ) |(subst h;first|exact .inl rfl|exact .inr wQ)))⟩
instance :ZdO fQ:=⟨λx q h=>by simp only[fQ,VY,V1,or_false]at h;(repeat' (first|(rcases h with rfl|h;first|exact .inl rfl|exact .inr wQ) |(subst h;first|exact .inl rfl|exact .inr wQ)))⟩
theorem Zh4:∀mb,L mb∈([]:Zo)->∀cs∈mb.es,∀p∈cs,fC Ze p\/mb.T.kd.isSome=Ze/\yE p=true:=by simp
theorem ZbH[s8 f]{T:TK}{xs:O α}:∀mb,L mb∈([L ⟨T,k,xs.map f⟩]:Zo)->∀cs∈mb.es,∀p∈cs,fC Ze p\/mb.T.kd.isSome=Ze/\yE p=true:=
 λmb h cs hc p hp=>.inl (E0 mb h cs hc p hp)
theorem ZbG[hf:ZdO f]{t t':TypeId}{xs:O α}:∀mb,L mb∈([L ⟨⟨t,L t'⟩,k,xs.map f⟩]:Zo)->∀cs∈mb.es,∀p∈cs,fC Ze p\/mb.T.kd.isSome=Ze/\yE p=true:=by
 intro mb h cs hc p hp;simp only[Wh,Option.some.injEq]at h
 subst h;obtain⟨x,_,rfl⟩:=WH.1 hc
 rcases hf.h x p hp with h|h
 ·exact .inl (Gb h)
 simp_all
theorem Zkc{x:V MB}(h1:∀mb,L mb∈([x]:Zo)->∀cs∈mb.es,∀p∈cs,fC Ze p\/mb.T.kd.isSome=Ze/\yE p=Ze)(h2:∀mb,L mb∈m->∀cs∈mb.es,∀p∈cs,fC Ze p\/mb.T.kd.isSome=Ze/\yE p=Ze):∀mb,L mb∈(x::m)->∀cs∈mb.es,∀p∈cs,fC Ze p\/mb.T.kd.isSome=Ze/\yE p=true:=by
 grind
theorem ZeK(h2:∀mb,L mb∈m->∀cs∈mb.es,∀p∈cs,fC Ze p\/mb.T.kd.isSome=Ze/\yE p=Ze):∀mb,L mb∈((Zd:V MB)::m)->∀cs∈mb.es,∀p∈cs,fC Ze p\/mb.T.kd.isSome=Ze/\yE p=true:=by
 grind
theorem kf(h:p:=by(repeat(first|exact Zh4|exact ZbH|exact ZbG|(refine Zkc ZbH ?_) |(refine Zkc ZbG ?_) |(refine ZeK ?_)));(first|done|fail)):p:=h
theorem Zk4{t t':TypeId}:(TK.mk t (L t')).st [.ms l]=TK.mk t (L t'):=fe rfl
attribute [go_sem] Zk4
theorem T5[hf:eE f]{t t':TypeId}{k l j k2 n:Nat}{T2:TK}{es2:O (O PV)}{x:α}{xs:O α}(hm:Kz 0 cs=L (l,j))(h1:kd1 m)(hl:Zr m l=L ⟨T2,k2,es2⟩)(ht:T2.t=t')(h:tQ ρ m m' cs (f x)):
 yq ρ m m' ⟨⟨t,L t'⟩,k,(xs.map f).set n cs⟩ ⟨⟨t,L t'⟩,k,(xs.set n x).map f⟩:=by
 by_cases hn:n<Zm xs
 ·exact IC hn hm h1 hl ht h
 ·rw[Ys YG,Ys YA]
  exact CQ
theorem Zei{t t':TypeId}:yq ρ m m' ⟨TK.of t,k,[]⟩ ⟨⟨t,L t'⟩,k,([]:O α).map f⟩:=⟨⟨rfl,rfl,.inr trivial⟩,λ_ _ _ _ i ds j l hi=>by grind⟩
def ZkM:PV->Bool
 |.sl (_::_)=>Zf
 |_=>Ze
theorem T4{t t':TypeId}{x:α}(hf:(f x).all ZkM=Ze)(h:tQ ρ m m' cs (f x)):yq ρ m m' ⟨TK.of t,k,V9 n cs⟩ ⟨⟨t,L t'⟩,k,(V9 n x).map f⟩:=
 ⟨⟨rfl,rfl,.inr (FZ h)⟩,λ_ _ T hT i ds j l hi hj gL=>by
  have od:(List.map f (V9 n x))[i]?=L ds:=hi;rw[Wp]at od
  obtain⟨y,hy,rfl⟩:=Wc.1 od;obtain rfl:y=x:=by
   grind
  have h2:=VZ.1 hf _ (List.mem_of_getElem? hj)
  cases l with
  |nil=>simp_all
  |cons a b=>cases h2⟩
inductive LL:O (V Nat)->Zo->Prop
 |n:LL [] []
 |c {r:V Nat} {x:V MB} {l:O (V Nat)} {m:Zo} (h:LL l m):LL (r::l) (x::m)
theorem Zl0{t t':O PV}{l:O (V Nat)}(hk:LL l m')(hl:yI n0 0 l m'=Ze)(hT:HZ (gC l) m m' t t')(hM:qj l m m' l m')(hi:Nv l=Ze):tN n0 t m t' m':=ZhC hT hM hi hl
theorem xcs(h:p:=by(try simp only[U_s,U_z]);(with_reducible refine Zl1 ?_);(with_reducible apply Zl0);(repeat' (first|(with_reducible exact Zik) |(with_reducible refine Zil ?_) |(with_reducible refine Zim ?_) |(with_reducible refine Zel ?_) |(with_reducible refine ZhA ?_ ?_) |(with_reducible exact Za7) |exact LL.n|(apply LL.c) |(with_reducible exact Za8 rfl) |exact Za8 rfl|(with_reducible exact Za6) |(with_reducible refine Zhz ?_ ?_) |exact .c _ rfl|exact .un _|exact Zek rfl rfl|exact Zej rfl rfl|exact MD|exact P3|exact P2 rfl rfl|(refine MC rfl ?_) |(refine Za5 rfl rfl ?_) |(refine T8 rfl rfl ?_) |(refine Za4 rfl rfl rfl ?_) |(refine Za2 rfl rfl ?_) |(with_reducible refine Za3 ?_) |(with_reducible refine Zem ?_) |(with_reducible refine Zen ?_) |(with_reducible exact T3) |(with_reducible refine Zeh ?_ ?_) |(with_reducible refine Zeg ?_) |(with_reducible refine Zhu ?_) |(with_reducible refine ZhB ?_) |(with_reducible exact Ro) |(refine OO rfl ?_ ?_) |(refine OP rfl ?_) |(refine Rn rfl ?_) |(with_reducible refine ON ?_) |(with_reducible refine ZaZ ?_) |(with_reducible exact ZaY) |(have _:=ky_;exact Zei) |(with_reducible refine Za1 ?_) |(with_reducible exact Zhx) |(with_reducible refine Zhw ?_ ?_) |(with_reducible exact CQ) |(with_reducible refine MA ?_) |exact CQ|(refine MA ?_) |(refine Za0 ?_) |(have _:=ky_;refine T4 rfl ?_) |(refine T7 ?_) |(refine T6 rfl ?_) |(refine P1 rfl (by exact k1) rfl rfl ?_) |(have _:=ky_;refine T5 rfl (by exact k1) rfl rfl ?_) |(refine IC ?_ rfl (by exact k1) rfl rfl ?_) |(simp only[aW,jQ,FM,Zl,FW,sj,cd,dV,dK,cY,aT,bg,aG,bA,bx,cL,bV,fQ,eD,zW,CN,CO,Bm,Ap,Bl]) |(with_unfolding_all rfl)));(all_goals first|(exact F1 rfl) |exact none|exact[]);(first|done|fail)):p:=h
theorem xss(h:p:=by(refine eh.Zle (CT.ok hy) ?_);(repeat' (first|exact Ep.n|(refine Ep.c ?_ ?_) |exact Fq.c (yf.r _) |exact Fq.c (yf.nil _) |(refine Fq.ag ?_) |exact Er.n|(refine Er.c ?_ ?_) |exact yf.r _|exact yf.nil _|exact yf.un _));(first|done|fail)):p:=h
theorem qgd(h:p:=by first|(simp only[go_sem];done) |(simp only[go_sem];decide)):p:=h
theorem Fa(h:p:=by first|(simp only[go_sem];done) |(simp only[go_sem];rfl)):p:=h
theorem qgi(h:p:=by first|rfl|(simp only[go_sem];rfl)):p:=h
theorem qgs(h:p:=by first|rfl|exact Zgk (by rfl) (by rfl) (by rfl)):p:=h
theorem qi1(h:p:=by first|rfl|(simp only[CT.args,List.map_cons,List.map_nil,Cg,uH,x9,Zg9,Zg8,Zg7];done)):p:=h
theorem qi2(h:p:=by simp[CT.args,CT.m0,vP,fC,Kx,AD,EA,Gq]):p:=h
theorem qi3(h:p:=by first|exact List.nodup_nil|decide):p:=h
theorem qi4(h:p:=by(simp only[CT.m0]);(repeat' (first|exact Qq|(refine Qp (by rfl) ?_) |(refine Qr (by rfl) (by rfl) (by simp[fC,AD,EA,Gq]) ?_)))):p:=h
theorem qi5(h:p:=by intro y_;simp[CT.mem,CT.m0]):p:=h
theorem qi6(h:p:=by intro y_;(simp only[CT.mem]);(repeat(first|exact ZbK|exact Kk|exact E0|(refine Uq Kk ?_) |(refine Uq (tS (by simp[fC,Gq])) ?_) |exact tS (by simp[fC,Gq]) |(refine Sl ?_)))):p:=h
theorem qi7(h:p:=by intro y_;(simp[CT.res,s9,vP,fC,Gq])):p:=h
theorem qsn(h:p:=by(simp only[Cl,Hk,Cm,Hj,IZ,Zcg,Zcf,OM,BA,Cu,List.forall_mem_nil,true_and,and_true,if_true]);(first|exact CT.ok hy|(simp only[all_nil,all_cons,uQ,wP,true_and,and_true,if_true];exact CT.ok hy) |exact xss|(simp only[all_nil,all_cons,uQ,wP,true_and,and_true,if_true];exact xss))):p:=h
theorem qgV(h:p:=by first|exact ZjN rfl|exact ZjO rfl|exact ZhM rfl|exact ZhN rfl|exact(fun h=>(by cases h)) |(simp[CT.res,s9,vP,fC,Gq])):p:=h
theorem qgF(h:p:=by first|exact ZhL rfl|exact(fun _=>rfl) |(simp[CT.res,s9,vP,fC,Nz])):p:=h
theorem LA(h:p:=by
 (simp only[List.length_cons,List.length_nil,Nat.reduceAdd,Nat.reduceSub,List.replicate_succ,List.replicate_zero,List.cons_append,List.nil_append,go_sem]);
 repeat' (first
  |((with_reducible refine ZbU H ?_ ?_)<;>(clear H;intro H;(try(refine ZeO (by rfl) (by rfl) qgd qgi ?_;simp only[go_sem,Nat.reduceAdd,Nat.reduceSub,Nat.reduceMul,Nat.reduceLT,Nat.reduceLeDiff,Nat.reduceEqDiff,if_true,eq_self,Int.reduceToNat]))))
  |((with_reducible refine Zfv ?_ ?_ ?_);(focus (simp[Gq]));(focus (simp only[go_sem]));(simp only[List.cons_append,List.nil_append]))
  |((with_reducible refine Zk0 (ZkZ H) ?_);(refine ZaO H rfl rfl ?_ ?_ ?_ ?_ ?_ ?_ ?_ ?_);(focus exact qi1);(focus exact qi2);(focus exact qi3);(focus exact qi4);(focus exact qi5);(focus exact qi6);(focus exact qi7);(clear H;intro y_ hy H;simp only[CT.res,CT.mem,qO,List.drop_succ_cons,List.drop_zero,Option.map_none,go_sem,Nat.reduceAdd,Nat.reduceSub,Nat.reduceMul,Nat.reduceLT,Nat.reduceLeDiff,Nat.reduceEqDiff,if_true,eq_self]))
  |((with_reducible refine jnS (jnH H) ?_);(first|((refine ZfM H ?_ ?_ (fun K_ hL H=>?_) (fun o_ H=>?_));(focus (decide +kernel));(focus (decide +kernel))) |((refine ZcS H ?_ ?_ (fun K_ hL H=>?_) (fun o_ H=>?_));(focus (decide +kernel));(focus (decide +kernel)))))
  |((with_reducible refine Zna (ZkZ H) ?_);(refine Zeb H rfl rfl rfl ?_ ?_ ?_ ?_ ?_ ?_ ?_ ?_);(focus exact qi1);(focus exact qi2);(focus exact qi3);(focus exact qi4);(focus exact qi5);(focus exact qi6);(focus exact qi7);(clear H;intro y_ hy H;simp only[CT.res,CT.mem,qO,List.drop_succ_cons,List.drop_zero,Option.map_none,go_sem,Nat.reduceAdd,Nat.reduceSub,Nat.reduceMul,Nat.reduceLT,Nat.reduceLeDiff,Nat.reduceEqDiff,if_true,eq_self]))
  |((with_reducible refine ZcR H ?_ ?_);(focus exact xcs);(clear H;intro z_ H))
  |((with_reducible refine ZfL H ?_ ?_);(focus exact xcs);(clear H;intro H))
  |((with_reducible refine ZfO ?_);intro K_ hK)
  |(with_reducible refine Vl ?_)
  |((first|((with_reducible refine ZcP H rfl (by kernel_rfl) ?_);(clear H;intro H)) |(with_reducible refine Rg ?_) |((with_reducible refine ZjP ?_);(refine MY (fun hg=>Zjb H hg ?_) (fun hg=>Zjc H hg ?_))<;>(clear H;intro H)) |((with_reducible refine ZmO ?_);replace H:=Fj H;obtain⟨y_,hy,H⟩:=H;(with_reducible apply Zid hy);(focus exact qgd);(focus exact qgi)) |((with_reducible refine ZmN ?_);replace H:=Fj H;obtain⟨y_,hy,H⟩:=H;(first|refine ZeP hy (by rfl) qgd qgi ?_|refine ZbW hy (by rfl) qgd qgi ?_)) |((with_reducible refine ZmM ?_);replace H:=Fj H;obtain⟨y_,hy,H⟩:=H;(with_reducible apply ZeQ hy);(focus (simp only[go_sem]))) |((with_reducible refine Zng ?_);replace H:=ZdN H;obtain⟨hc,H⟩:=H;(first|((with_reducible apply Zds hc);(focus rfl);(focus rfl);(focus exact qgd);(focus (first|rfl|(intro x_;rfl)))) |refine VL hc (by rfl) (by rfl) (by rfl) qgd qgi ?_|((with_reducible apply VM hc);(focus rfl);(focus rfl);(focus (simp only[go_sem]))))) |((with_reducible refine ZlF ?_);replace H:=ZdN H;obtain⟨hc,H⟩:=H;(first|refine Zd1 hc Fa Fa Fa Fa (by rfl) qgs rfl rfl (by intro x_;rfl) rfl ?_|refine Zd3 hc Fa Fa Fa Fa qgs rfl rfl (by intro x_;rfl) ?_|refine Zd4 hc Fa Fa Fa Fa (by rfl) qgs rfl rfl (by intro x_;rfl) rfl rfl rfl ?_|refine Zd0 hc rfl Fa Fa Fa Fa (by rfl) (by rfl) (by rfl) (by rfl) rfl rfl (by rfl) ?_|refine Zd2 hc rfl Fa Fa Fa Fa (by rfl) (by rfl) (by rfl) rfl rfl rfl ?_)) |((with_reducible refine mkS ?_);replace H:=ZdN H;obtain⟨hc,H⟩:=H;refine Zin hc Fa Fa Fa Fa rfl rfl ?_) |((with_reducible refine Zm0 ?_);(first|(with_reducible refine KI (by decide) ?_) |(replace H:=ZdN H;obtain⟨hc,H⟩:=H;(first|refine KI hc ?_|refine KI (of_decide_eq_true hc) ?_|refine KI ⟨rfl,of_decide_eq_true hc⟩ ?_)))) |(with_reducible refine ZcO (by kernel_rfl) ?_))<;>simp only[go_sem,Nat.reduceAdd,Nat.reduceSub,Nat.reduceMul,Nat.reduceLT,Nat.reduceLeDiff,Nat.reduceEqDiff,if_true,eq_self])
  |((with_reducible refine ZcT ?_);(try simp only[uK,tF]))
  |((with_reducible refine ZcQ ?_);(simp only[Hz,DR,uK,tF,if_true,if_false,eq_self,Nat.reduceEqDiff,Nat.one_ne_zero,Nat.zero_ne_one]);(try simp only[Zjq,bsr,bsl]at H))
  |((with_reducible refine ZfN ?_);(try simp only[JE,FG]))
  |((first|with_reducible refine hQ _ _ ?_|with_reducible refine Kf _ _ ?_);(try simp only[Zjq,bsr,bsl]at H);replace H:=ZlD H;subst H;simp only[Fin,Vu,Zfq,go_sem,Nat.reduceAdd,Nat.reduceSub,Nat.reduceMul,Nat.reduceLT,Nat.reduceLeDiff,Nat.reduceEqDiff,if_true,eq_self];exact xcs)
  |((with_reducible refine Vm ?_);simp only[Se,Zbu,Zbt,MU];(first|with_reducible refine ZaX ?_|with_reducible refine ZaW ?_|((refine My (fun hg=>Zjb H hg ?_) (fun hg=>Zjc H hg ?_))<;>(clear H;intro H))))
  |((with_reducible refine Zju ?_);replace H:=Fj H;obtain⟨y_,hy,H⟩:=H;(first|((with_reducible apply TS);(focus (first|exact CT.ok hy|exact xss));(focus (simp[Uy,uQ,wP]));(focus exact Nat.le_of_ble_eq_true rfl);(focus exact xf);(focus exact qgV)) |(have _:=ky_;(with_reducible apply ZaP);(focus exact qsn);(focus exact Nat.le_of_ble_eq_true rfl);(focus exact kf);(focus exact qgF)) |((with_reducible apply TT);(focus exact qsn);(focus exact Nat.le_of_ble_eq_true rfl);(focus exact xf);(focus exact qgF)));simp only[CT.res,CT.mem,go_sem,Nat.reduceAdd,Nat.reduceSub,Nat.reduceMul,Nat.reduceLT,Nat.reduceLeDiff,Nat.reduceEqDiff,if_true,eq_self])
  |((with_reducible refine ZkD ?_);(refine Vo (Hlp H) ?_ ?_);(focus (simp only[bm.T,bm.M,U_s,U_z];exact xcs));(clear H;intro n_ s_ H K_ hL;replace H:=Hrd H;simp only[bm.T,bm.M,U_s,U_z]))
  |((with_reducible refine P6 (by kernel_rfl) ?_);(try simp only[uK,tF]))
  |(with_reducible refine hK _ _ ?_;clear hK)
  |(clear hK;with_reducible refine hK _ _ ?_;clear hK)
  |((iterate 2 clear hK);with_reducible refine hK _ _ ?_;clear hK)
  |((iterate 3 clear hK);with_reducible refine hK _ _ ?_;clear hK)
  |((iterate 4 clear hK);with_reducible refine hK _ _ ?_;clear hK)
  |((iterate 5 clear hK);with_reducible refine hK _ _ ?_;clear hK)
  |((with_reducible refine And.intro ?_ ?_);omega)
  |(simp only[SF,SD,SE,RY];simp only[go_sem,Nat.reduceAdd,Nat.reduceSub,Nat.reduceMul,Nat.reduceLT,Nat.reduceLeDiff,Nat.reduceEqDiff,if_true,eq_self])
  |(first|simp only[ZkA hy,Option.map_some,List.drop_zero,go_sem] |simp only[Zg0 hy,Option.map_some,List.drop_zero,go_sem] |simp only[Sq hy,Da hy,Ko hy,go_sem,Nat.reduceAdd,Nat.reduceSub,Nat.reduceMul,Nat.reduceLT,Nat.reduceLeDiff,Nat.reduceEqDiff,if_true,eq_self] |simp only[Da hy,Ko hy,go_sem,Nat.reduceAdd,Nat.reduceSub,Nat.reduceMul,Nat.reduceLT,Nat.reduceLeDiff,Nat.reduceEqDiff,if_true,eq_self])
  |((with_reducible replace H:=ZlC H);(first|with_reducible refine hL _ _ _ H ?_|(clear hL;with_reducible refine hL _ _ _ H ?_));(try simp only[bm.T,bm.M,U_s,U_z]);exact xcs)
  |((with_reducible refine jnX H hL ?_);exact xcs)
  |(with_reducible exact(Zjd H).elim)
  |((with_reducible replace H:=rgH H);obtain⟨y_,hy,H⟩:=H;(first|simp only[ZkA hy,Option.map_some,List.drop_zero,go_sem] |simp only[Zg0 hy,Option.map_some,List.drop_zero,go_sem] |simp only[Sq hy,Da hy,Ko hy,go_sem,Nat.reduceAdd,Nat.reduceSub,Nat.reduceMul,Nat.reduceLT,Nat.reduceLeDiff,Nat.reduceEqDiff,if_true,eq_self] |simp only[Da hy,Ko hy,go_sem,Nat.reduceAdd,Nat.reduceSub,Nat.reduceMul,Nat.reduceLT,Nat.reduceLeDiff,Nat.reduceEqDiff,if_true,eq_self])))):p:=h
theorem cw{x:α}{f:FuncId}{c:Code}(e:A=B)(hf:P.funcs[f]?=some fn)(hn:fn.ntmps=n){rs:Array ResultVar}(hrs:fn.results=rs){r:PV}(hb:fn.body=some c:=by exact rfl)
 (h:∀Q:Exit->List PV->Mem->Prop,B.bind some=some x->(∀t m,Fin P m0.length rs r m1 t m->Q .ret t m)->(∀t m,Fin P m0.length rs r m1 t m->Q .normal t m)->s7 P m0.length c Q (args++V9 (n-args.length) .ud) m0:=by intro Q H hQ Kf;exact LA) (H:A=some x):eh P f args m0 r m1:=je hf hb hn hrs fun Q=>h Q (H0 (e▸H))
theorem ck{x:α}{f:FuncId}{c:Code}(e:A=B)(hf:P.funcs[f]?=some fn)(hn:fn.ntmps=n){rs:Array ResultVar}(hrs:fn.results=rs){r:PV}(hb:fn.body=some c:=by exact rfl)
 (h:∀Q:Exit->List PV->Mem->Prop,B.bind some=some x->(∀t m,Fin P m0.length rs r m1 t m->Q .ret t m)->(∀t m,Fin P m0.length rs r m1 t m->Q .normal t m)->s7 P m0.length c Q (args++V9 (n-args.length) .ud) m0:=by intro Q H hQ Kf;have ky_:=trivial;exact LA) (H:A=some x):eh P f args m0 r m1:=je hf hb hn hrs fun Q=>h Q (H0 (e▸H))
def dW(s:X)(s0:Int):V (Int⊕(Unit⊕Bool)):=
 Zs (Zg (s0<(s.size:Int)))
 (Zn (xy s s0) λy1=>
 Zs (Zg (y1<65))
 (L (.inr (.inr Zf)))
 (Zn (xy s s0) λy2=>
 Zs (Zg (90<y2))
 (L (.inr (.inr Zf)))
 (L (.inl (aJ (s0+1))))))
 (L (.inr (.inl ())))
instance (s:X):bm (dW s):=⟨λs0=>(vs s::.un::.un::Z s0::(U 19 [])),λs0=>[]⟩
def eT(s:X):V Bool:=
 (aB (dW s) NN 0).bind (bj (λo0=>
 L (Zg ((s.size:Int)=3))) (λr=>L r))
instance (s:X):CT prog (eT s):=⟨94,[vs s],[],λr=>vb r,λr=>[],cw (eT.eq_1 ..) func94 ntmps94 results94⟩
def bh(x:Int)(least:Int)(AE:Int):V Bool:=
 Zs (Zg (least<=x))
 (L (Zg (x<=AE)))
 (L Zf)
instance (x:Int)(least:Int)(AE:Int):CT prog (bh x least AE):=⟨144,[Z x,Z least,Z AE],[],λr=>vb r,λr=>[],cw (bh.eq_1 ..) func144 ntmps144 results144⟩
def kG(s:X)(s0:Int):V (Int⊕(Unit⊕Bool)):=
 Zs (Zg (s0<3))
 (Zn (xy s s0) λy1=>
 Zn (bh (IntKind.i64.wrap y1) 65 90) λy2=>
 Zs (!y2)
 (L (.inr (.inr Zf)))
 (L (.inl (aJ (s0+1)))))
 (L (.inr (.inl ())))
instance (s:X):bm (kG s):=⟨λs0=>(vs s::.un::.un::Z s0::(U 13 [])),λs0=>[]⟩
def cu(s:X):V Bool:=
 Zs (!decide ((s.size:Int)=3))
 (L Zf)
 ((aB (kG s) NN 0).bind (bj (λo0=>
 L Ze) (λr=>L r)))
instance (s:X):CT prog (cu s):=⟨200,[vs s],[],λr=>vb r,λr=>[],cw (cu.eq_1 ..) func200 ntmps200 results200⟩
def ba(n:Int)(low:Int)(high:Int):V Bool:=
 Zs (Zg (low<=n))
 (L (Zg (n<=high)))
 (L Zf)
instance (n:Int)(low:Int)(high:Int):CT prog (ba n low high):=⟨55,[Z n,Z low,Z high],[],λr=>vb r,λr=>[],cw (ba.eq_1 ..) func55 ntmps55 results55⟩
theorem xe(n l h:Int):ba n l h=L (Zg (l<=n)&&Zg (n<=h)):=by
 unfold ba;grind
theorem cO(n l h:Int):bh n l h=L (Zg (l<=n)&&Zg (n<=h)):=by
 unfold bh;grind
theorem gV:@ba=@bh:=by rfl
theorem EV{i c:Int}(h:xy s i=L c):0<=c/\c<=255:=by
 unfold xy at h
 split at h
 ·cases h
  unfold CM
  cases hb:s[i.toNat]? with
  |none=>simp
  |some b=>
   have:=b.toNat_lt
   grind
 grind
theorem U5(hs:s.size=3):dW s=kG s:=by
 funext i
 unfold dW kG;rw[hs]
 cases hi:Zg (i<3)with
 |false=>rfl
 |true=>
  simp only[show((3:Nat):Int)=3 from rfl,hi,Yw]
  cases hg:xy s i with
  |none=>rfl
  |some y=>
   obtain⟨h0,h1⟩:=EV hg;simp only[VR,hg];rw[show IntKind.i64.wrap y=y from aV YA,cO]
   grind
theorem CZ(h:i<s.size):∃c,xy s (i:Int)=L c:=by
 unfold xy;simp_all
theorem Oq(hs:s.size<=1152921504606846000):∀(k i N:Nat),i+k=s.size->k<N->∃o,aB (dW s) N (i:Int)=L o/\(o=.inl ()\/o=.inr Zf):=by
 intro k
 induction k with
 |zero=>
  intro i N hi hk
  cases N with
  |zero=>omega
  |succ N=>exact⟨.inl (),by simp[aB,dW,show ¬((i:Int)<s.size)by omega],.inl rfl⟩
 |succ k ih=>
  intro i N hi hk
  cases N with
  |zero=>omega
  |succ N=>
   obtain⟨c,hc⟩:=CZ (s:=s) (i:=i) YA;have hw:=bz (i:=i) (n:=s.size) YA YA
   by_cases h2:c<65
   ·exact⟨.inr Zf,by simp[aB,dW,show(i:Int)<s.size by omega,hc,h2],.inr rfl⟩
   ·by_cases h3:90<c
    ·exact⟨.inr Zf,by simp[aB,dW,show(i:Int)<s.size by omega,hc,h2,h3],.inr rfl⟩
    ·obtain⟨o,ho,hoo⟩:=ih (i+1) N YA YA
     refine⟨o,?_,hoo⟩;simp only[aB,dW,Yi (show(i:Int)<s.size by omega),Yw,hc,VR,Yt h2,Yt h3,Yx,hw]
     omega
theorem pn(hs:s.size<=1152921504606846000):eT s=cu s/\∃b,cu s=L b:=by
 obtain⟨o,ho,hoo⟩:=Oq hs s.size 0 NN YA YF;have zK:aB (dW s) NN 0=L o:=ho
 by_cases h3:s.size=3
 ·have e:cu s=(aB (dW s) NN 0).bind (bj (λ_=>L Ze) (λr=>L r)):=by
   unfold cu;rw[U5 h3,h3];rfl
  have e2:eT s=(aB (dW s) NN 0).bind (bj (λ_=>L (Zg ((s.size:Int)=3))) (λr=>L r)):=rfl
  rw[e,e2,zK,h3]
  grind
 ·have e:cu s=L false:=by unfold cu;grind
  have e2:eT s=L false:=by
   unfold eT;rw[zK]
   rcases hoo with rfl|rfl
   ·show L _=L _;rw[Yt YA]
   rfl
  simp_all
def uY:Nat:=1152921504606846000
end Go.Proofs.YtbjbellffaenaaaGreatDoor
namespace Go.Proofs
open Go.Proofs.YtbjbellffaenaaaGreatDoor(YC)
open Go.Shelf
def Tryz.Ed:WN:=⟨λ|169=>62|n=>n,λ|70=>112|9=>9|0=>0|72=>114|37=>22|127=>191|3=>3|5=>5|n=>n,λ|n=>n⟩
def Tryz.Ze4:Go.Proofs.Lays.n169 prog Tryz.Ed:={
 mixed:=by kernel_rfl
 f169:=func62.trans (D L Y)
 t0:=Tryz.underlying0
 a0:=Tryz.isAgg0
 z0:=Tryz.sizeOf0
 v0:=Tryz.zeroValue0
 t3:=Tryz.underlying3
 a3:=Tryz.isAgg3
 z3:=Tryz.sizeOf3
 v3:=Tryz.zeroValue3
 t9:=Tryz.underlying9
 a9:=Tryz.isAgg9
 z9:=Tryz.sizeOf9
 v9:=Tryz.zeroValue9
 t37:=Tryz.underlying22
 a37:=Tryz.isAgg22
 z37:=Tryz.sizeOf22
 v37:=Tryz.zeroValue22
 t70:=Tryz.underlying112
 a70:=Tryz.isAgg112
 z70:=Tryz.sizeOf112
 v70:=Tryz.zeroValue112
 t72:=Tryz.underlying114
 a72:=Tryz.isAgg114
 z72:=Tryz.sizeOf114
 v72:=Tryz.zeroValue114
 t127:=Tryz.underlying191
 a127:=Tryz.isAgg191
 z127:=Tryz.sizeOf191
 v127:=Tryz.zeroValue191}
def Tryz.nb:Builder.Extra prog Tryz.Ed:={
 sizeBuilder:=by kernel_rfl
 liesBuilder:=by kernel_rfl
 t5:=Tryz.underlying5
 a5:=Tryz.isAgg5
 z5:=Tryz.sizeOf5
 v5:=Tryz.zeroValue5
 infoByte:=by kernel_rfl
 cellsByte:=by kernel_rfl
 sizeByte:=by kernel_rfl
 neB5:=by decide}
open Go.RowKit in
def Tryz.Builder_String_any(B b:Nat)(l:O UInt8)(w:World)(h:Lib.IsBuilder 114 5 B b (Lib.byteCells l) w)(hBw:B<=w.heap.size):
 Calls prog 62 #[.pointer (L ⟨b,0,Zd⟩)] w λe w'=>e=.returned (.string ⟨l.toArray⟩)/\Below B w w':=Any.Builder_String_any Tryz.Ze4 Tryz.nb B b l w h hBw
def Tryz.NK:WN:=⟨λ|125=>228|128=>280|129=>281|n=>n,λ|46=>201|3=>3|51=>282|53=>284|4=>4|5=>5|9=>9|n=>n,λ|n=>n⟩
def Tryz.Ze1:Go.Proofs.Lays.n125 prog Tryz.NK:={
 mixed:=by kernel_rfl
 f125:=func228.trans (D L Y)
 f128:=func280.trans (D L Y)
 f129:=func281.trans (D L Y)
 t3:=Tryz.underlying3
 a3:=Tryz.isAgg3
 z3:=Tryz.sizeOf3
 v3:=Tryz.zeroValue3
 t4:=Tryz.underlying4
 a4:=Tryz.isAgg4
 z4:=Tryz.sizeOf4
 v4:=Tryz.zeroValue4
 t5:=Tryz.underlying5
 a5:=Tryz.isAgg5
 z5:=Tryz.sizeOf5
 v5:=Tryz.zeroValue5
 t9:=Tryz.underlying9
 a9:=Tryz.isAgg9
 z9:=Tryz.sizeOf9
 v9:=Tryz.zeroValue9
 t46:=Tryz.underlying201
 a46:=Tryz.isAgg201
 z46:=Tryz.sizeOf201
 v46:=Tryz.zeroValue201
 t51:=Tryz.underlying282
 a51:=Tryz.isAgg282
 z51:=Tryz.sizeOf282
 v51:=Tryz.zeroValue282
 t53:=Tryz.underlying284
 a53:=Tryz.isAgg284
 z53:=Tryz.sizeOf284
 v53:=Tryz.zeroValue284}
def Tryz.bits_Len(x:Int)(w:World)(h0:0<=x)(h1:x<=18446744073709551615):
 Calls prog 228 #[.int .u64 x] w λe w'=>e=.returned (Zh Zi (Lib.bitLen x.toNat))/\w'=w:=Any.bits_Len Tryz.Ze1 x w h0 h1
def Tryz.NJ:WN:=⟨λ|106=>269|213=>319|265=>370|n=>n,λ|9=>9|3=>3|n=>n,λ|n=>n⟩
def Tryz.Ze0:Go.Proofs.Lays.n106 prog Tryz.NJ:={
 mixed:=by kernel_rfl
 f106:=func269.trans (D L Y)
 f213:=func319.trans (D L Y)
 f265:=func370.trans (D L Y)
 t3:=Tryz.underlying3
 a3:=Tryz.isAgg3
 z3:=Tryz.sizeOf3
 v3:=Tryz.zeroValue3
 t9:=Tryz.underlying9
 a9:=Tryz.isAgg9
 z9:=Tryz.sizeOf9
 v9:=Tryz.zeroValue9}
open Go.RowKit in
def Tryz.strings_Compare(a b:X)(w:World):
 Calls prog 269 #[.string a,.string b] w λe w'=>e=.returned (Zh Zi (Lib.compareBytes a.data.toList b.data.toList))/\w'=w:=Any.strings_Compare Tryz.Ze0 a b w
def Tryz.Kv:WN:=⟨λ|171=>191|243=>239|246=>299|283=>344|284=>345|285=>346|286=>347|129=>281|317=>377|318=>378|319=>379|320=>380|337=>393|338=>394|n=>n,λ|3=>3|9=>9|2=>2|4=>4|171=>347|0=>0|53=>284|37=>22|5=>5|173=>349|212=>376|51=>282|20=>20|213=>377|46=>201|232=>389|233=>390|n=>n,λ|17=>5|18=>6|19=>7|n=>n⟩
def Tryz.Zca:Go.Proofs.LaysM.n171 prog Tryz.Kv:={
 mixed:=by kernel_rfl
 f129:=func281.trans (D L Y)
 f171:=func191.trans (D L Y)
 f243:=func239.trans (D L Y)
 f246:=func299.trans (D L Y)
 f283:=func344.trans (D L Y)
 f284:=func345.trans (D L Y)
 f285:=func346.trans (D L Y)
 f286:=func347.trans (D L Y)
 f317:=func377.trans (D L Y)
 f318:=func378.trans (D L Y)
 f319:=func379.trans (D L Y)
 f320:=func380.trans (D L Y)
 f337:=func393.trans (D L Y)
 f338:=func394.trans (D L Y)
 t0:=Tryz.underlying0
 a0:=Tryz.isAgg0
 z0:=Tryz.sizeOf0
 v0:=Tryz.zeroValue0
 t2:=Tryz.underlying2
 a2:=Tryz.isAgg2
 z2:=Tryz.sizeOf2
 v2:=Tryz.zeroValue2
 t3:=Tryz.underlying3
 a3:=Tryz.isAgg3
 z3:=Tryz.sizeOf3
 v3:=Tryz.zeroValue3
 t4:=Tryz.underlying4
 a4:=Tryz.isAgg4
 z4:=Tryz.sizeOf4
 v4:=Tryz.zeroValue4
 t5:=Tryz.underlying5
 a5:=Tryz.isAgg5
 z5:=Tryz.sizeOf5
 v5:=Tryz.zeroValue5
 t9:=Tryz.underlying9
 a9:=Tryz.isAgg9
 z9:=Tryz.sizeOf9
 v9:=Tryz.zeroValue9
 t20:=Tryz.underlying20
 a20:=Tryz.isAgg20
 z20:=Tryz.sizeOf20
 v20:=Tryz.zeroValue20
 t37:=Tryz.underlying22
 a37:=Tryz.isAgg22
 z37:=Tryz.sizeOf22
 v37:=Tryz.zeroValue22
 t46:=Tryz.underlying201
 a46:=Tryz.isAgg201
 z46:=Tryz.sizeOf201
 v46:=Tryz.zeroValue201
 t51:=Tryz.underlying282
 a51:=Tryz.isAgg282
 z51:=Tryz.sizeOf282
 v51:=Tryz.zeroValue282
 t53:=Tryz.underlying284
 a53:=Tryz.isAgg284
 z53:=Tryz.sizeOf284
 v53:=Tryz.zeroValue284
 t171:=Tryz.underlying347
 a171:=Tryz.isAgg347
 z171:=Tryz.sizeOf347
 v171:=Tryz.zeroValue347
 t173:=Tryz.underlying349
 a173:=Tryz.isAgg349
 z173:=Tryz.sizeOf349
 v173:=Tryz.zeroValue349
 t212:=Tryz.underlying376
 a212:=Tryz.isAgg376
 z212:=Tryz.sizeOf376
 v212:=Tryz.zeroValue376
 t213:=Tryz.underlying377
 a213:=Tryz.isAgg377
 z213:=Tryz.sizeOf377
 t232:=Tryz.underlying389
 a232:=Tryz.isAgg389
 z232:=Tryz.sizeOf389
 v232:=Tryz.zeroValue389
 t233:=Tryz.underlying390
 a233:=Tryz.isAgg390
 z233:=Tryz.sizeOf390
 v233:=Tryz.zeroValue390
 g17:=by kernel_rfl
 g18:=by kernel_rfl
 g19:=by kernel_rfl
 i0:=by kernel_rfl
 i2:=by kernel_rfl
 i3:=by kernel_rfl
 i4:=by kernel_rfl
 i5:=by kernel_rfl
 i9:=by kernel_rfl
 i20:=by kernel_rfl
 i37:=by kernel_rfl
 i46:=by kernel_rfl
 i51:=by kernel_rfl
 i53:=by kernel_rfl
 i171:=by kernel_rfl
 i173:=by kernel_rfl
 i212:=by kernel_rfl
 i232:=by kernel_rfl
 i233:=by kernel_rfl
 m17:=by kernel_rfl
 m18:=by kernel_rfl
 m19:=by kernel_rfl}
open Go.RowKit Go.Sort Go.Lib in
def Tryz.strconv_Itoa (n : Int) (h0 : -9223372036854775808 <= n) (h1 : n <= 9223372036854775807) (w : World) (ZmB : Lib.TabIs prog w "internal/strconv.uint64pow10" .u64 Lib.pow10Tab) :
 Calls prog 191 #[Zh Zi n] w λe w'=>e=.returned (.string ⟨(Lib.itoa n).toArray⟩)/\∃k os,w'=grow (w.drewN k) os:=Any.strconv_Itoa Tryz.Zca n h0 h1 w ZmB
def Tryz.NO:WN:=⟨λ|171=>191|243=>239|246=>299|283=>344|284=>345|285=>346|286=>347|129=>281|317=>377|318=>378|319=>379|320=>380|337=>393|338=>394|n=>n,λ|3=>3|9=>9|2=>2|4=>4|171=>347|0=>0|53=>284|37=>22|5=>5|173=>349|212=>376|51=>282|20=>20|213=>377|46=>201|232=>389|233=>390|n=>n,λ|17=>5|18=>6|19=>7|n=>n⟩
def Tryz.Ze5:Go.Proofs.Lays.n171 prog Tryz.NO:={
 mixed:=by kernel_rfl
 f129:=func281.trans (D L Y)
 f171:=func191.trans (D L Y)
 f243:=func239.trans (D L Y)
 f246:=func299.trans (D L Y)
 f283:=func344.trans (D L Y)
 f284:=func345.trans (D L Y)
 f285:=func346.trans (D L Y)
 f286:=func347.trans (D L Y)
 f317:=func377.trans (D L Y)
 f318:=func378.trans (D L Y)
 f319:=func379.trans (D L Y)
 f320:=func380.trans (D L Y)
 f337:=func393.trans (D L Y)
 f338:=func394.trans (D L Y)
 t0:=Tryz.underlying0
 a0:=Tryz.isAgg0
 z0:=Tryz.sizeOf0
 v0:=Tryz.zeroValue0
 t2:=Tryz.underlying2
 a2:=Tryz.isAgg2
 z2:=Tryz.sizeOf2
 v2:=Tryz.zeroValue2
 t3:=Tryz.underlying3
 a3:=Tryz.isAgg3
 z3:=Tryz.sizeOf3
 v3:=Tryz.zeroValue3
 t4:=Tryz.underlying4
 a4:=Tryz.isAgg4
 z4:=Tryz.sizeOf4
 v4:=Tryz.zeroValue4
 t5:=Tryz.underlying5
 a5:=Tryz.isAgg5
 z5:=Tryz.sizeOf5
 v5:=Tryz.zeroValue5
 t9:=Tryz.underlying9
 a9:=Tryz.isAgg9
 z9:=Tryz.sizeOf9
 v9:=Tryz.zeroValue9
 t20:=Tryz.underlying20
 a20:=Tryz.isAgg20
 z20:=Tryz.sizeOf20
 v20:=Tryz.zeroValue20
 t37:=Tryz.underlying22
 a37:=Tryz.isAgg22
 z37:=Tryz.sizeOf22
 v37:=Tryz.zeroValue22
 t46:=Tryz.underlying201
 a46:=Tryz.isAgg201
 z46:=Tryz.sizeOf201
 v46:=Tryz.zeroValue201
 t51:=Tryz.underlying282
 a51:=Tryz.isAgg282
 z51:=Tryz.sizeOf282
 v51:=Tryz.zeroValue282
 t53:=Tryz.underlying284
 a53:=Tryz.isAgg284
 z53:=Tryz.sizeOf284
 v53:=Tryz.zeroValue284
 t171:=Tryz.underlying347
 a171:=Tryz.isAgg347
 z171:=Tryz.sizeOf347
 v171:=Tryz.zeroValue347
 t173:=Tryz.underlying349
 a173:=Tryz.isAgg349
 z173:=Tryz.sizeOf349
 v173:=Tryz.zeroValue349
 t212:=Tryz.underlying376
 a212:=Tryz.isAgg376
 z212:=Tryz.sizeOf376
 v212:=Tryz.zeroValue376
 t213:=Tryz.underlying377
 a213:=Tryz.isAgg377
 z213:=Tryz.sizeOf377
 t232:=Tryz.underlying389
 a232:=Tryz.isAgg389
 z232:=Tryz.sizeOf389
 v232:=Tryz.zeroValue389
 t233:=Tryz.underlying390
 a233:=Tryz.isAgg390
 z233:=Tryz.sizeOf390
 v233:=Tryz.zeroValue390
 g17:=by kernel_rfl
 g18:=by kernel_rfl
 g19:=by kernel_rfl}
open Go.RowKit Go.Sort Go.Lib in
def Tryz.strconv_Itoa_small(i:Nat)(hi:i<100)(w:World):
 Calls prog 191 #[Zh Zi i] w λe w'=>e=.returned (.string ⟨(Lib.decDigits i).toArray⟩)/\w'=w:=Any.strconv_Itoa_small Tryz.Ze5 i hi w
def Tryz.Ku:WN:=⟨λ|172=>190|244=>237|245=>238|247=>294|279=>295|280=>296|281=>297|282=>298|287=>341|316=>342|171=>191|205=>343|321=>375|322=>376|243=>239|246=>299|283=>344|284=>345|285=>346|286=>347|129=>281|317=>377|318=>378|319=>379|320=>380|337=>393|338=>394|n=>n,λ|9=>9|3=>3|75=>116|76=>117|4=>4|5=>5|167=>298|37=>22|0=>0|85=>299|2=>2|168=>301|53=>284|175=>341|46=>201|210=>345|127=>191|145=>374|143=>372|21=>21|171=>347|173=>349|212=>376|51=>282|20=>20|213=>377|232=>389|233=>390|80=>120|n=>n,λ|15=>3|16=>4|17=>5|18=>6|19=>7|n=>n⟩
def Tryz.Gv:Go.Proofs.LaysC.n172 prog Tryz.Ku:={
 mixed:=by kernel_rfl
 f129:=func281.trans (D L Y)
 f171:=func191.trans (D L Y)
 f172:=func190.trans (D L Y)
 f205:=func343.trans (D L Y)
 f243:=func239.trans (D L Y)
 f244:=func237.trans (D L Y)
 f245:=func238.trans (D L Y)
 f246:=func299.trans (D L Y)
 f247:=func294.trans (D L Y)
 f279:=func295.trans (D L Y)
 f280:=func296.trans (D L Y)
 f281:=func297.trans (D L Y)
 f282:=func298.trans (D L Y)
 f283:=func344.trans (D L Y)
 f284:=func345.trans (D L Y)
 f285:=func346.trans (D L Y)
 f286:=func347.trans (D L Y)
 f287:=func341.trans (D L Y)
 f316:=func342.trans (D L Y)
 f317:=func377.trans (D L Y)
 f318:=func378.trans (D L Y)
 f319:=func379.trans (D L Y)
 f320:=func380.trans (D L Y)
 f321:=func375.trans (D L Y)
 f322:=func376.trans (D L Y)
 f337:=func393.trans (D L Y)
 f338:=func394.trans (D L Y)
 t0:=Tryz.underlying0
 a0:=Tryz.isAgg0
 z0:=Tryz.sizeOf0
 v0:=Tryz.zeroValue0
 t2:=Tryz.underlying2
 a2:=Tryz.isAgg2
 z2:=Tryz.sizeOf2
 v2:=Tryz.zeroValue2
 t3:=Tryz.underlying3
 a3:=Tryz.isAgg3
 z3:=Tryz.sizeOf3
 v3:=Tryz.zeroValue3
 t4:=Tryz.underlying4
 a4:=Tryz.isAgg4
 z4:=Tryz.sizeOf4
 v4:=Tryz.zeroValue4
 t5:=Tryz.underlying5
 a5:=Tryz.isAgg5
 z5:=Tryz.sizeOf5
 v5:=Tryz.zeroValue5
 t9:=Tryz.underlying9
 a9:=Tryz.isAgg9
 z9:=Tryz.sizeOf9
 v9:=Tryz.zeroValue9
 t20:=Tryz.underlying20
 a20:=Tryz.isAgg20
 z20:=Tryz.sizeOf20
 v20:=Tryz.zeroValue20
 t21:=Tryz.underlying21
 a21:=Tryz.isAgg21
 z21:=Tryz.sizeOf21
 v21:=Tryz.zeroValue21
 t37:=Tryz.underlying22
 a37:=Tryz.isAgg22
 z37:=Tryz.sizeOf22
 v37:=Tryz.zeroValue22
 t46:=Tryz.underlying201
 a46:=Tryz.isAgg201
 z46:=Tryz.sizeOf201
 v46:=Tryz.zeroValue201
 t51:=Tryz.underlying282
 a51:=Tryz.isAgg282
 z51:=Tryz.sizeOf282
 v51:=Tryz.zeroValue282
 t53:=Tryz.underlying284
 a53:=Tryz.isAgg284
 z53:=Tryz.sizeOf284
 v53:=Tryz.zeroValue284
 t75:=Tryz.underlying116
 a75:=Tryz.isAgg116
 z75:=Tryz.sizeOf116
 v75:=Tryz.zeroValue116
 t76:=Tryz.underlying117
 a76:=Tryz.isAgg117
 z76:=Tryz.sizeOf117
 v76:=Tryz.zeroValue117
 t85:=Tryz.underlying299
 a85:=Tryz.isAgg299
 z85:=Tryz.sizeOf299
 v85:=Tryz.zeroValue299
 t127:=Tryz.underlying191
 a127:=Tryz.isAgg191
 z127:=Tryz.sizeOf191
 v127:=Tryz.zeroValue191
 t143:=Tryz.underlying372
 a143:=Tryz.isAgg372
 z143:=Tryz.sizeOf372
 v143:=Tryz.zeroValue372
 t145:=Tryz.underlying374
 a145:=Tryz.isAgg374
 z145:=Tryz.sizeOf374
 v145:=Tryz.zeroValue374
 t167:=Tryz.underlying298
 a167:=Tryz.isAgg298
 z167:=Tryz.sizeOf298
 v167:=Tryz.zeroValue298
 t168:=Tryz.underlying301
 a168:=Tryz.isAgg301
 z168:=Tryz.sizeOf301
 v168:=Tryz.zeroValue301
 t171:=Tryz.underlying347
 a171:=Tryz.isAgg347
 z171:=Tryz.sizeOf347
 v171:=Tryz.zeroValue347
 t173:=Tryz.underlying349
 a173:=Tryz.isAgg349
 z173:=Tryz.sizeOf349
 v173:=Tryz.zeroValue349
 t175:=Tryz.underlying341
 a175:=Tryz.isAgg341
 z175:=Tryz.sizeOf341
 v175:=Tryz.zeroValue341
 t210:=Tryz.underlying345
 a210:=Tryz.isAgg345
 z210:=Tryz.sizeOf345
 v210:=Tryz.zeroValue345
 t212:=Tryz.underlying376
 a212:=Tryz.isAgg376
 z212:=Tryz.sizeOf376
 v212:=Tryz.zeroValue376
 t213:=Tryz.underlying377
 a213:=Tryz.isAgg377
 z213:=Tryz.sizeOf377
 t232:=Tryz.underlying389
 a232:=Tryz.isAgg389
 z232:=Tryz.sizeOf389
 v232:=Tryz.zeroValue389
 t233:=Tryz.underlying390
 a233:=Tryz.isAgg390
 z233:=Tryz.sizeOf390
 v233:=Tryz.zeroValue390
 g15:=by kernel_rfl
 g16:=by kernel_rfl
 g17:=by kernel_rfl
 g18:=by kernel_rfl
 g19:=by kernel_rfl
 t80:=Tryz.underlying120
 a80:=Tryz.isAgg120
 z80:=Tryz.sizeOf120
 v80:=Tryz.zeroValue120
 i0:=by kernel_rfl
 i2:=by kernel_rfl
 i3:=by kernel_rfl
 i4:=by kernel_rfl
 i5:=by kernel_rfl
 i9:=by kernel_rfl
 i20:=by kernel_rfl
 i21:=by kernel_rfl
 i37:=by kernel_rfl
 i46:=by kernel_rfl
 i51:=by kernel_rfl
 i53:=by kernel_rfl
 i75:=by kernel_rfl
 i76:=by kernel_rfl
 i80:=by kernel_rfl
 i85:=by kernel_rfl
 i127:=by kernel_rfl
 i143:=by kernel_rfl
 i145:=by kernel_rfl
 i167:=by kernel_rfl
 i168:=by kernel_rfl
 i171:=by kernel_rfl
 i173:=by kernel_rfl
 i175:=by kernel_rfl
 i210:=by kernel_rfl
 i212:=by kernel_rfl
 i232:=by kernel_rfl
 i233:=by kernel_rfl
 m15:=by kernel_rfl
 m16:=by kernel_rfl
 m17:=by kernel_rfl
 m18:=by kernel_rfl
 m19:=by kernel_rfl
 c0:=by kernel_rfl
 c2:=by kernel_rfl
 c3:=by kernel_rfl
 c4:=by kernel_rfl
 c5:=by kernel_rfl
 c9:=by kernel_rfl
 c20:=by kernel_rfl
 c21:=by kernel_rfl
 c37:=by kernel_rfl
 c46:=by kernel_rfl
 c51:=by kernel_rfl
 c53:=by kernel_rfl
 c75:=by kernel_rfl
 c76:=by kernel_rfl
 c80:=by kernel_rfl
 c85:=by kernel_rfl
 c127:=by kernel_rfl
 c143:=by kernel_rfl
 c145:=by kernel_rfl
 c167:=by kernel_rfl
 c168:=by kernel_rfl
 c171:=by kernel_rfl
 c173:=by kernel_rfl
 c175:=by kernel_rfl
 c210:=by kernel_rfl
 c212:=by kernel_rfl
 c213:=by kernel_rfl
 c232:=by kernel_rfl
 c233:=by kernel_rfl}
open Go.RowKit in
def Tryz.strconv_Atoi_ok(s:X)(ZbM:s.size<=9223372036854775806)(v:Int)(h:Lib.atoiAll s.data.toList=.ok v)(w:World):
 Calls prog 190 #[.string s] w λe w'=>e=.returned (.tuple #[Zh Zi v,.nilIface])/\(w'=w\/∃t,w'=Lib.bytesWorld w 5 t):=Any.strconv_Atoi_ok Tryz.Gv s ZbM v h w
open Go.RowKit in
def Tryz.strconv_Atoi_syntax(s:X)(ZeL:s.size<=281474976710656)(h:Lib.atoiAll s.data.toList=Lib.NumEnd.syntax)(ev:Value)(w:World)(hv:w.cell? ⟨3,0,Zd⟩=L ev)(Px:ev=.nilIface\/∃te pe,ev=.iface te pe):
 Calls prog 190 #[.string s] w λe w'=>∃N,e=.returned (.tuple #[Zh Zi (0),.iface 301 (.pointer (L ⟨N,0,Zd⟩))])/\w.heap.size<=N/\w'.heap[N]?=L (.cells #[.string ⟨#[65,116,111,105]⟩,.string s,ev] 345 (0,0))/\Below w.heap.size w w':=Any.strconv_Atoi_syntax Tryz.Gv s ZeL h ev w hv Px
open Go.RowKit in
def Tryz.strconv_Atoi_range(s:X)(ZeL:s.size<=281474976710656)(h:Lib.atoiAll s.data.toList=.range)(ev:Value)(w:World)(hv:w.cell? ⟨4,0,Zd⟩=L ev)(Px:ev=.nilIface\/∃te pe,ev=.iface te pe):
 Calls prog 190 #[.string s] w λe w'=>∃N,e=.returned (.tuple #[Zh Zi (Lib.atoiSat s.data.toList),.iface 301 (.pointer (L ⟨N,0,Zd⟩))])/\w.heap.size<=N/\w'.heap[N]?=L (.cells #[.string ⟨#[65,116,111,105]⟩,.string s,ev] 345 (0,0))/\Below w.heap.size w w':=Any.strconv_Atoi_range Tryz.Gv s ZeL h ev w hv Px
def Tryz.NL:WN:=⟨λ|145=>121|220=>188|219=>236|217=>290|225=>291|224=>292|267=>293|266=>339|314=>340|n=>n,λ|9=>9|4=>4|59=>181|3=>3|5=>5|46=>201|146=>339|51=>282|n=>n,λ|1=>0|n=>n⟩
def Tryz.Ze2:Go.Proofs.Lays.n145 prog Tryz.NL:={
 mixed:=by kernel_rfl
 f145:=func121.trans (D L Y)
 f217:=func290.trans (D L Y)
 f219:=func236.trans (D L Y)
 f220:=func188.trans (D L Y)
 f224:=func292.trans (D L Y)
 f225:=func291.trans (D L Y)
 f266:=func339.trans (D L Y)
 f267:=func293.trans (D L Y)
 f314:=func340.trans (D L Y)
 t3:=Tryz.underlying3
 a3:=Tryz.isAgg3
 z3:=Tryz.sizeOf3
 v3:=Tryz.zeroValue3
 t4:=Tryz.underlying4
 a4:=Tryz.isAgg4
 z4:=Tryz.sizeOf4
 v4:=Tryz.zeroValue4
 t5:=Tryz.underlying5
 a5:=Tryz.isAgg5
 z5:=Tryz.sizeOf5
 v5:=Tryz.zeroValue5
 t9:=Tryz.underlying9
 a9:=Tryz.isAgg9
 z9:=Tryz.sizeOf9
 v9:=Tryz.zeroValue9
 t46:=Tryz.underlying201
 a46:=Tryz.isAgg201
 z46:=Tryz.sizeOf201
 v46:=Tryz.zeroValue201
 t51:=Tryz.underlying282
 a51:=Tryz.isAgg282
 z51:=Tryz.sizeOf282
 v51:=Tryz.zeroValue282
 t59:=Tryz.underlying181
 a59:=Tryz.isAgg181
 z59:=Tryz.sizeOf181
 v59:=Tryz.zeroValue181
 t146:=Tryz.underlying339
 a146:=Tryz.isAgg339
 z146:=Tryz.sizeOf339
 v146:=Tryz.zeroValue339
 g1:=by kernel_rfl}
open Go.RowKit Go.Lib in
def Tryz.strings_Cut(s sep:X)(m:Int)(w:World)(hs:s.size<4294967281)(hm:w.cell? ⟨0,0,Zd⟩=L (Zh Zi m)):
 Calls prog 121 #[.string s,.string sep] w λe w'=>e=.returned (.tuple #[.string ⟨(Lib.cut s.data.toList sep.data.toList).1.toArray⟩,.string ⟨(Lib.cut s.data.toList sep.data.toList).2.1.toArray⟩,.bool (Lib.cut s.data.toList sep.data.toList).2.2])/\∃n,w'=w.drewN n:=Any.strings_Cut Tryz.Ze2 s sep m w hs hm
def Tryz.NP:WN:=⟨λ|191=>108|189=>173|125=>228|257=>227|128=>280|129=>281|294=>271|295=>272|296=>273|297=>274|298=>275|299=>276|216=>277|300=>278|301=>279|328=>321|329=>322|330=>323|331=>324|332=>325|215=>326|343=>373|n=>n,λ|28=>25|0=>0|3=>3|46=>201|51=>282|53=>284|4=>4|183=>276|182=>275|131=>78|5=>5|9=>9|218=>322|222=>326|228=>368|229=>369|n=>n,λ|n=>n⟩
def Tryz.Ze6:Go.Proofs.Lays.n191 prog Tryz.NP:={
 mixed:=by kernel_rfl
 f125:=func228.trans (D L Y)
 f128:=func280.trans (D L Y)
 f129:=func281.trans (D L Y)
 f189:=func173.trans (D L Y)
 f191:=func108.trans (D L Y)
 f215:=func326.trans (D L Y)
 f216:=func277.trans (D L Y)
 f257:=func227.trans (D L Y)
 f294:=func271.trans (D L Y)
 f295:=func272.trans (D L Y)
 f296:=func273.trans (D L Y)
 f297:=func274.trans (D L Y)
 f298:=func275.trans (D L Y)
 f299:=func276.trans (D L Y)
 f300:=func278.trans (D L Y)
 f301:=func279.trans (D L Y)
 f328:=func321.trans (D L Y)
 f329:=func322.trans (D L Y)
 f330:=func323.trans (D L Y)
 f331:=func324.trans (D L Y)
 f332:=func325.trans (D L Y)
 f343:=func373.trans (D L Y)
 t0:=Tryz.underlying0
 a0:=Tryz.isAgg0
 z0:=Tryz.sizeOf0
 v0:=Tryz.zeroValue0
 t3:=Tryz.underlying3
 a3:=Tryz.isAgg3
 z3:=Tryz.sizeOf3
 v3:=Tryz.zeroValue3
 t4:=Tryz.underlying4
 a4:=Tryz.isAgg4
 z4:=Tryz.sizeOf4
 v4:=Tryz.zeroValue4
 t5:=Tryz.underlying5
 a5:=Tryz.isAgg5
 z5:=Tryz.sizeOf5
 v5:=Tryz.zeroValue5
 t9:=Tryz.underlying9
 a9:=Tryz.isAgg9
 z9:=Tryz.sizeOf9
 v9:=Tryz.zeroValue9
 t28:=Tryz.underlying25
 a28:=Tryz.isAgg25
 z28:=Tryz.sizeOf25
 v28:=Tryz.zeroValue25
 t46:=Tryz.underlying201
 a46:=Tryz.isAgg201
 z46:=Tryz.sizeOf201
 v46:=Tryz.zeroValue201
 t51:=Tryz.underlying282
 a51:=Tryz.isAgg282
 z51:=Tryz.sizeOf282
 v51:=Tryz.zeroValue282
 t53:=Tryz.underlying284
 a53:=Tryz.isAgg284
 z53:=Tryz.sizeOf284
 v53:=Tryz.zeroValue284
 t131:=Tryz.underlying78
 a131:=Tryz.isAgg78
 z131:=Tryz.sizeOf78
 v131:=Tryz.zeroValue78
 t182:=Tryz.underlying275
 a182:=Tryz.isAgg275
 z182:=Tryz.sizeOf275
 v182:=Tryz.zeroValue275
 t183:=Tryz.underlying276
 a183:=Tryz.isAgg276
 z183:=Tryz.sizeOf276
 v183:=Tryz.zeroValue276
 t218:=Tryz.underlying322
 a218:=Tryz.isAgg322
 z218:=Tryz.sizeOf322
 v218:=Tryz.zeroValue322
 t222:=Tryz.underlying326
 a222:=Tryz.isAgg326
 z222:=Tryz.sizeOf326
 v222:=Tryz.zeroValue326
 t228:=Tryz.underlying368
 a228:=Tryz.isAgg368
 z228:=Tryz.sizeOf368
 v228:=Tryz.zeroValue368
 t229:=Tryz.underlying369
 a229:=Tryz.isAgg369
 z229:=Tryz.sizeOf369
 v229:=Tryz.zeroValue369}
open Go.Sort Go.RowKit in
def Tryz.sort_Ints(oz off cap:Nat)(zs:O Int)(w:World)(hH:Holds (Value.int .i64) w oz off zs.toArray)(zI:oz<w.heap.size)(xh:Zm zs<4611686018427387904):
 Calls prog 108 #[.slice (L ⟨oz,off,Zd⟩) (Zm zs) cap] w λe w'=>
  e=.returned (.tuple #[])/\∃n os,w'=grow (putRow (Value.int .i64) (Sort.ahead w n) oz off (zs.mergeSort λx y=>Zg (x<=y)).toArray) os:=Any.sort_Ints Tryz.Ze6 oz off cap zs w hH zI xh
def Tryz.NQ:WN:=⟨λ|192=>158|190=>220|125=>228|258=>265|128=>280|129=>281|302=>309|303=>310|304=>311|305=>312|306=>313|307=>314|308=>315|309=>316|310=>317|333=>358|329=>322|330=>323|334=>359|335=>360|336=>361|344=>386|n=>n,λ|31=>84|0=>0|9=>9|3=>3|46=>201|51=>282|53=>284|4=>4|183=>276|182=>275|131=>78|5=>5|218=>322|222=>326|228=>368|229=>369|n=>n,λ|n=>n⟩
def Tryz.Ze7:Go.Proofs.Lays.n192 prog Tryz.NQ:={
 mixed:=by kernel_rfl
 f125:=func228.trans (D L Y)
 f128:=func280.trans (D L Y)
 f129:=func281.trans (D L Y)
 f190:=func220.trans (D L Y)
 f192:=func158.trans (D L Y)
 f258:=func265.trans (D L Y)
 f302:=func309.trans (D L Y)
 f303:=func310.trans (D L Y)
 f304:=func311.trans (D L Y)
 f305:=func312.trans (D L Y)
 f306:=func313.trans (D L Y)
 f307:=func314.trans (D L Y)
 f308:=func315.trans (D L Y)
 f309:=func316.trans (D L Y)
 f310:=func317.trans (D L Y)
 f329:=func322.trans (D L Y)
 f330:=func323.trans (D L Y)
 f333:=func358.trans (D L Y)
 f334:=func359.trans (D L Y)
 f335:=func360.trans (D L Y)
 f336:=func361.trans (D L Y)
 f344:=func386.trans (D L Y)
 t0:=Tryz.underlying0
 a0:=Tryz.isAgg0
 z0:=Tryz.sizeOf0
 v0:=Tryz.zeroValue0
 t3:=Tryz.underlying3
 a3:=Tryz.isAgg3
 z3:=Tryz.sizeOf3
 v3:=Tryz.zeroValue3
 t4:=Tryz.underlying4
 a4:=Tryz.isAgg4
 z4:=Tryz.sizeOf4
 v4:=Tryz.zeroValue4
 t5:=Tryz.underlying5
 a5:=Tryz.isAgg5
 z5:=Tryz.sizeOf5
 v5:=Tryz.zeroValue5
 t9:=Tryz.underlying9
 a9:=Tryz.isAgg9
 z9:=Tryz.sizeOf9
 v9:=Tryz.zeroValue9
 t31:=Tryz.underlying84
 a31:=Tryz.isAgg84
 z31:=Tryz.sizeOf84
 v31:=Tryz.zeroValue84
 t46:=Tryz.underlying201
 a46:=Tryz.isAgg201
 z46:=Tryz.sizeOf201
 v46:=Tryz.zeroValue201
 t51:=Tryz.underlying282
 a51:=Tryz.isAgg282
 z51:=Tryz.sizeOf282
 v51:=Tryz.zeroValue282
 t53:=Tryz.underlying284
 a53:=Tryz.isAgg284
 z53:=Tryz.sizeOf284
 v53:=Tryz.zeroValue284
 t131:=Tryz.underlying78
 a131:=Tryz.isAgg78
 z131:=Tryz.sizeOf78
 v131:=Tryz.zeroValue78
 t182:=Tryz.underlying275
 a182:=Tryz.isAgg275
 z182:=Tryz.sizeOf275
 v182:=Tryz.zeroValue275
 t183:=Tryz.underlying276
 a183:=Tryz.isAgg276
 z183:=Tryz.sizeOf276
 v183:=Tryz.zeroValue276
 t218:=Tryz.underlying322
 a218:=Tryz.isAgg322
 z218:=Tryz.sizeOf322
 v218:=Tryz.zeroValue322
 t222:=Tryz.underlying326
 a222:=Tryz.isAgg326
 z222:=Tryz.sizeOf326
 v222:=Tryz.zeroValue326
 t228:=Tryz.underlying368
 a228:=Tryz.isAgg368
 z228:=Tryz.sizeOf368
 v228:=Tryz.zeroValue368
 t229:=Tryz.underlying369
 a229:=Tryz.isAgg369
 z229:=Tryz.sizeOf369
 v229:=Tryz.zeroValue369}
open Go.Sort Go.RowKit in
def Tryz.sort_Strings(oz off cap:Nat)(ss:O (O UInt8))(w:World)(hH:Holds encStr w oz off ss.toArray)(zI:oz<w.heap.size)(xh:Zm ss<4611686018427387904):
 Calls prog 158 #[.slice (L ⟨oz,off,Zd⟩) (Zm ss) cap] w λe w'=>
  e=.returned (.tuple #[])/\∃n os,w'=grow (putRow encStr (Sort.ahead w n) oz off (ss.mergeSort λx y=>Zg (x<=y)).toArray) os:=Any.sort_Strings Tryz.Ze7 oz off cap ss w hH zI xh
def Tryz.tW:WN:=⟨λ|8=>231|13=>285|14=>286|16=>288|15=>287|29=>337|30=>338|42=>374|49=>392|n=>n,λ|20=>20|26=>253|36=>289|0=>0|38=>291|42=>295|3=>3|4=>4|47=>201|17=>17|33=>234|34=>287|89=>402|12=>12|56=>282|82=>396|5=>5|83=>397|84=>398|85=>191|86=>399|87=>400|n=>n,λ|n=>n⟩
def Tryz.zw:Go.Proofs.LaysGt.n8 prog Tryz.tW:={
 mixed:=by kernel_rfl
 f8:=func231.trans (D L Y)
 f13:=func285.trans (D L Y)
 f14:=func286.trans (D L Y)
 f15:=func287.trans (D L Y)
 f16:=func288.trans (D L Y)
 f29:=func337.trans (D L Y)
 f30:=func338.trans (D L Y)
 f42:=func374.trans (D L Y)
 f49:=func392.trans (D L Y)
 t0:=Tryz.underlying0
 a0:=Tryz.isAgg0
 z0:=Tryz.sizeOf0
 v0:=Tryz.zeroValue0
 i0:=by kernel_rfl
 t3:=Tryz.underlying3
 a3:=Tryz.isAgg3
 z3:=Tryz.sizeOf3
 v3:=Tryz.zeroValue3
 i3:=by kernel_rfl
 t4:=Tryz.underlying4
 a4:=Tryz.isAgg4
 z4:=Tryz.sizeOf4
 v4:=Tryz.zeroValue4
 i4:=by kernel_rfl
 t5:=Tryz.underlying5
 a5:=Tryz.isAgg5
 z5:=Tryz.sizeOf5
 v5:=Tryz.zeroValue5
 i5:=by kernel_rfl
 t12:=Tryz.underlying12
 a12:=Tryz.isAgg12
 z12:=Tryz.sizeOf12
 v12:=Tryz.zeroValue12
 i12:=by kernel_rfl
 t17:=Tryz.underlying17
 a17:=Tryz.isAgg17
 z17:=Tryz.sizeOf17
 v17:=Tryz.zeroValue17
 i17:=by kernel_rfl
 t20:=Tryz.underlying20
 a20:=Tryz.isAgg20
 z20:=Tryz.sizeOf20
 v20:=Tryz.zeroValue20
 i20:=by kernel_rfl
 t26:=Tryz.underlying253
 a26:=Tryz.isAgg253
 z26:=Tryz.sizeOf253
 v26:=Tryz.zeroValue253
 i26:=by kernel_rfl
 t33:=Tryz.underlying234
 a33:=Tryz.isAgg234
 z33:=Tryz.sizeOf234
 v33:=Tryz.zeroValue234
 i33:=by kernel_rfl
 t34:=Tryz.underlying287
 a34:=Tryz.isAgg287
 z34:=Tryz.sizeOf287
 v34:=Tryz.zeroValue287
 i34:=by kernel_rfl
 t36:=Tryz.underlying289
 a36:=Tryz.isAgg289
 z36:=Tryz.sizeOf289
 v36:=Tryz.zeroValue289
 i36:=by kernel_rfl
 t38:=Tryz.underlying291
 a38:=Tryz.isAgg291
 z38:=Tryz.sizeOf291
 v38:=Tryz.zeroValue291
 i38:=by kernel_rfl
 t42:=Tryz.underlying295
 a42:=Tryz.isAgg295
 z42:=Tryz.sizeOf295
 v42:=Tryz.zeroValue295
 i42:=by kernel_rfl
 t47:=Tryz.underlying201
 a47:=Tryz.isAgg201
 z47:=Tryz.sizeOf201
 v47:=Tryz.zeroValue201
 i47:=by kernel_rfl
 t56:=Tryz.underlying282
 a56:=Tryz.isAgg282
 z56:=Tryz.sizeOf282
 v56:=Tryz.zeroValue282
 i56:=by kernel_rfl
 t82:=Tryz.underlying396
 a82:=Tryz.isAgg396
 z82:=Tryz.sizeOf396
 v82:=Tryz.zeroValue396
 i82:=by kernel_rfl
 t83:=Tryz.underlying397
 a83:=Tryz.isAgg397
 z83:=Tryz.sizeOf397
 v83:=Tryz.zeroValue397
 i83:=by kernel_rfl
 t84:=Tryz.underlying398
 a84:=Tryz.isAgg398
 z84:=Tryz.sizeOf398
 v84:=Tryz.zeroValue398
 i84:=by kernel_rfl
 t85:=Tryz.underlying191
 a85:=Tryz.isAgg191
 z85:=Tryz.sizeOf191
 v85:=Tryz.zeroValue191
 i85:=by kernel_rfl
 t86:=Tryz.underlying399
 a86:=Tryz.isAgg399
 z86:=Tryz.sizeOf399
 v86:=Tryz.zeroValue399
 i86:=by kernel_rfl
 t87:=Tryz.underlying400
 a87:=Tryz.isAgg400
 z87:=Tryz.sizeOf400
 v87:=Tryz.zeroValue400
 i87:=by kernel_rfl
 t89:=Tryz.underlying402
 a89:=Tryz.isAgg402
 z89:=Tryz.sizeOf402
 v89:=Tryz.zeroValue402
 i89:=by kernel_rfl}
def Tryz.NM:WN:=⟨λ|146=>58|221=>120|268=>185|138=>186|143=>187|195=>233|197=>234|218=>235|219=>236|260=>289|217=>290|225=>291|224=>292|267=>293|266=>339|314=>340|n=>n,λ|9=>9|31=>84|3=>3|4=>4|0=>0|105=>256|21=>21|5=>5|46=>201|119=>335|139=>338|138=>337|146=>339|51=>282|n=>n,λ|1=>0|3=>1|4=>2|n=>n⟩
def Tryz.Ze3:Go.Proofs.Lays.n146 prog Tryz.NM:={
 mixed:=by kernel_rfl
 f138:=func186.trans (D L Y)
 f143:=func187.trans (D L Y)
 f146:=func58.trans (D L Y)
 f195:=func233.trans (D L Y)
 f197:=func234.trans (D L Y)
 f217:=func290.trans (D L Y)
 f218:=func235.trans (D L Y)
 f219:=func236.trans (D L Y)
 f221:=func120.trans (D L Y)
 f224:=func292.trans (D L Y)
 f225:=func291.trans (D L Y)
 f260:=func289.trans (D L Y)
 f266:=func339.trans (D L Y)
 f267:=func293.trans (D L Y)
 f268:=func185.trans (D L Y)
 f314:=func340.trans (D L Y)
 t0:=Tryz.underlying0
 a0:=Tryz.isAgg0
 z0:=Tryz.sizeOf0
 v0:=Tryz.zeroValue0
 t3:=Tryz.underlying3
 a3:=Tryz.isAgg3
 z3:=Tryz.sizeOf3
 v3:=Tryz.zeroValue3
 t4:=Tryz.underlying4
 a4:=Tryz.isAgg4
 z4:=Tryz.sizeOf4
 v4:=Tryz.zeroValue4
 t5:=Tryz.underlying5
 a5:=Tryz.isAgg5
 z5:=Tryz.sizeOf5
 v5:=Tryz.zeroValue5
 t9:=Tryz.underlying9
 a9:=Tryz.isAgg9
 z9:=Tryz.sizeOf9
 v9:=Tryz.zeroValue9
 t21:=Tryz.underlying21
 a21:=Tryz.isAgg21
 z21:=Tryz.sizeOf21
 v21:=Tryz.zeroValue21
 t31:=Tryz.underlying84
 a31:=Tryz.isAgg84
 z31:=Tryz.sizeOf84
 v31:=Tryz.zeroValue84
 t46:=Tryz.underlying201
 a46:=Tryz.isAgg201
 z46:=Tryz.sizeOf201
 v46:=Tryz.zeroValue201
 t51:=Tryz.underlying282
 a51:=Tryz.isAgg282
 z51:=Tryz.sizeOf282
 v51:=Tryz.zeroValue282
 t105:=Tryz.underlying256
 a105:=Tryz.isAgg256
 z105:=Tryz.sizeOf256
 v105:=Tryz.zeroValue256
 t119:=Tryz.underlying335
 a119:=Tryz.isAgg335
 z119:=Tryz.sizeOf335
 t138:=Tryz.underlying337
 a138:=Tryz.isAgg337
 z138:=Tryz.sizeOf337
 v138:=Tryz.zeroValue337
 t139:=Tryz.underlying338
 a139:=Tryz.isAgg338
 z139:=Tryz.sizeOf338
 v139:=Tryz.zeroValue338
 t146:=Tryz.underlying339
 a146:=Tryz.isAgg339
 z146:=Tryz.sizeOf339
 v146:=Tryz.zeroValue339
 g1:=by kernel_rfl
 g3:=by kernel_rfl
 g4:=by kernel_rfl}
open Go.RowKit Go.Lib in
def Tryz.strings_Split(s sep:X)(m:Int)(w:World)(hs:s.size<4294967281)(hm:w.cell? ⟨0,0,Zd⟩=L (Zh Zi m))(h1:1<=sep.size):
 Calls prog 58 #[.string s,.string sep] w λe w'=>
  e=.returned (.slice (L ⟨w.heap.size,0,Zd⟩) (Lib.countB s sep+1) (Lib.countB s sep+1))/\w'=w.alloc (.cells ((Lib.splitB sep 0 (Lib.countB s sep) s).map Value.string).toArray 9):=Any.strings_Split Tryz.Ze3 Y s sep m w hs hm h1
end Go.Proofs
namespace Go.Proofs.YtbjbellffaenaaaGreatDoor
open Go.RowKit
abbrev RP(b:Nat):Value:=.pointer (L ⟨b,0,Zd⟩)
def SR(w:World)(b f:Nat)(sv:Value)(nm:String)(h:w.cell? ⟨b,0,Zd⟩=L (.iface 272 sv))
 (hm:(((prog.info? 318).bind λi=>i.methods.find? (·.name==nm)).map λm=>(m.path,m.func))=L (#[⟨320,0,Ze⟩],Zd))
 (hi:Sem.run prog (method (prog.types.size+99) 272 sv nm) w=.ok (f,sv) w):
 Sem.run prog (method (prog.types.size+100) 318 (RP b) nm) w=.ok (f,sv) w:=by
 obtain⟨m,LR,CB⟩:=Wc.1 hm;obtain⟨i,od,Gh⟩:=Yh.1 LR;have hpa:m.path=#[⟨320,0,Ze⟩]:=D Prod.fst CB;have hfu:m.func=none:=D Prod.snd CB;have u:=run_underlying Tryz.underlying320;unfold method;have hl:Sem.run prog (Sem.load Mode.plain ({ block:=b,off:=0}:Addr) Sem.pure) w=.ok (.iface 272 sv) w:=by
  simp[Sem.run,h]
 simp[typeInfo,od,Gh,hpa,hfu,follow,Place.get,u,asAddr,loadVar,isAgg,load,h,fieldPlace];rw[show({ block:=b,off:=0}:Addr).add 0={ block:=b,off:=0}from rfl,hl];exact hi
def Zc4(w:World)(b:Nat)(sv:Value)(h:w.cell? ⟨b,0,Zd⟩=L (.iface 272 sv)):
 Sem.run prog (method (prog.types.size + 100) 318 (RP b) "Less") w = .ok (421, .agg #[.iface 272 sv]) w := by
 have hm : (((prog.info? 318).bind λi => i.methods.find? (·.name == "Less")).map λm => (m.path, m.func)) = L (#[], L (421, Zf)) := by kernel_rfl
 obtain⟨m,LR,CB⟩:=Wc.1 hm;obtain⟨i,od,Gh⟩:=Yh.1 LR;have hpa:m.path=#[]:=D Prod.fst CB;have hfu:m.func=L (421,Zf):=D Prod.snd CB;have u:=run_underlying Tryz.underlying318;have u2:=run_underlying Tryz.underlying320;unfold method;have vE:Sem.run prog (loadVar 320 ⟨b,0,Zd⟩) w=.ok (.agg #[.iface 272 sv]) w:=by
  have a1:=Tryz.isAgg320;have a2:=Tryz.sizeOf320;have hl:Sem.run prog (Sem.load Mode.plain ({ block:=b,off:=0}:Addr) Sem.pure) w=.ok (.iface 272 sv) w:=by
   simp[Sem.run,h]
  unfold loadVar loadCells;simp[a1,a2,loadCellsFrom,load];rw[show({ block:=b,off:=0}:Addr).add 0={ block:=b,off:=0}from rfl,hl];rfl
 have hk:∀(x y:X) (w:World),Sem.run prog (Builtin.ssaWrapNilChk_ #[318] 318 #[RP b,.string x,.string y]) w=.ok (RP b) w:=λ_ _ _=>rfl
 have hf:Sem.run prog (follow [] 318 (Place.val (RP b))) w=.ok (318,Place.val (RP b)) w:=rfl;have hr:∀x,Sem.run prog (receiverAt 318 (Place.val (RP b)) Zf (L x)) w=.ok (.agg #[.iface 272 sv]) w:=by
  intro x;unfold receiverAt;simp[u,Place.get,strVal,hk,asAddr,vE]
 simp[typeInfo,od,Gh,hpa,hfu,hf,hr]
open Go.Lib Go.Sort
abbrev SV(oz off n c:Nat):Value:=.slice (L ⟨oz,off,Zd⟩) n c
def Zif (oz off n c : Nat) (w : World) : Sem.run prog (method (prog.types.size + 99) 272 (SV oz off n c) "Len") w = .ok (414, SV oz off n c) w := by kernel_rfl
def ZeU (oz off n c : Nat) (w : World) : Sem.run prog (method (prog.types.size + 99) 272 (SV oz off n c) "Swap") w = .ok (417, SV oz off n c) w := by kernel_rfl
def ZeT (oz off n c : Nat) (w : World) : Sem.run prog (method (prog.types.size + 100) 272 (SV oz off n c) "Less") w = .ok (415, SV oz off n c) w := by kernel_rfl
def Zb4(oz off c size:Nat)(W:World)(G:Nat->Int)(hc:∀t,t<size->W.cell? ⟨oz,off+t,Zd⟩=L (Zh Zi (G t)))(i j:Nat)(hi:i<size)(hj:j<size)(_hsz:size<4611686018427387904):
 Calls prog 415 #[SV oz off size c,Zh Zi i,Zh Zi j] W λe w'=>e=.returned (.bool (Zg (G i<G j)))/\∃q,w'=W.drewN q:=by
 have ci:=hc i hi;have cj:=hc j hj
 go_enter func415,ntmps415
 go_wp2
 go_quiet (fail)
 go_wp2
 go_ret
 exact⟨rfl,nq,rfl⟩
def Zb5(oz off c size:Nat)(W:World)(x y:Int)(i j:Nat)(hi:i<size)(hj:j<size)(_hsz:size<4611686018427387904)
 (ci:W.cell? ⟨oz,off+i,Zd⟩=L (Zh Zi x)) (cj:W.cell? ⟨oz,off+j,Zd⟩=L (Zh Zi y)) (fi:W.frozen? ⟨oz,off+i,Zd⟩=Zf) (fj:W.frozen? ⟨oz,off+j,Zd⟩=Zf):
 Calls prog 417 #[SV oz off size c,Zh Zi i,Zh Zi j] W λe w'=>e=.returned (.tuple #[])/\∃q,w'=((W.setCell ⟨oz,off+i,Zd⟩ (Zh Zi y)).setCell ⟨oz,off+j,Zd⟩ (Zh Zi x)).drewN q:=by
 obtain⟨v',hy'⟩:=cell?_setCell_some (w:=W) (p:=⟨oz,off+i,Zd⟩) (x:=Zh Zi y) (q:=⟨oz,off+j,Zd⟩) cj
 go_enter func417,ntmps417
 go_wp2
 go_region
 all_goals(try go_wp2)
 all_goals go_end0
 all_goals exact⟨rfl,1,rfl⟩
def ZeV(oz off c size:Nat)(W:World):Calls prog 414 #[SV oz off size c] W λe w'=>e=.returned (Zh Zi size)/\w'=W:=by
 go_enter func414,ntmps414
 go_wp2
 go_ret
 simp
def Zc2(oz off c size:Nat)(W:World)(G:Nat->Int)(hc:∀t,t<size->W.cell? ⟨oz,off+t,Zd⟩=L (Zh Zi (G t)))(hb:oz<W.heap.size)(i j:Nat)(hi:i<size)(hj:j<size)(xh:size<4611686018427387904):
 Calls prog 421 #[.agg #[.iface 272 (SV oz off size c)],Zh Zi i,Zh Zi j] W λe w'=>e=.returned (.bool (Zg (G j<G i)))/\∃o q,w'=(W.alloc o).drewN q:=by
 have mL:=ZeT oz off size c;have eL:∀args w,(callFunc 415 args).run prog w=.ok (.enter 415 args) w:=enters_of func415 Y rfl;simp at mL
 have hl:∀o,Calls prog 415 #[SV oz off size c,Zh Zi j,Zh Zi i] (W.alloc o) λe w'=>e=.returned (.bool (Zg (G j<G i)))/\∃q,w'=(W.alloc o).drewN q:=λo=>
  Zb4 oz off c size _ G (λt ht=>(Below.cell (Up.al o (Up.rfl' W)) (p:=⟨oz,off+t,Zd⟩) hb).trans (hc t ht)) j i hj hi xh
 go_enter func421,ntmps421
 go_wp2_with (go_at_fn 415;refine(hl _).mono ?_;rintro e w' ⟨rfl,q,rfl⟩)
 go_ret
 exact⟨rfl,_,q,rfl⟩
def SW.ZgL{w0 W:World}{oz off:Nat}{dk:Zp Int}(h:SW (Value.int .i64) w0 oz off dk W){b o:Nat}(hb:b<w0.heap.size)(gL:b≠oz):W.cell? ⟨b,o,Zd⟩=w0.cell? ⟨b,o,Zd⟩:=by
 obtain⟨n,os,rfl⟩:=h;unfold sortWorld;rw[cell?_grow _ _ _ YG,cell?_putRow_other _ _ _ _ _ _ (.inl gL)];rfl
def D3(x y:Int):Bool:=Zg (y<x)
def ZeR(oz off c b bR:Nat)(d:Zp Int)(w:World)(hH:Holds (Value.int .i64) w oz off d)(zI:oz<w.heap.size)(hR:w.cell? ⟨bR,0,Zd⟩=L (.iface 272 (SV oz off d.size c)))(hRb:bR<w.heap.size)(gL:bR≠oz)
 (C2:0<=b) (hb:b<=d.size) (xh:d.size<4611686018427387904):
 Calls prog 362 #[.iface 318 (RP bR),Zh Zi 0,Zh Zi b] w λe w'=>e=.returned (.tuple #[])/\SW (Value.int .i64) w oz off (Sort.insertionSort D3 d 0 b) w':=by
 have eL:∀args w,(callFunc 421 args).run prog w=.ok (.enter 421 args) w:=enters_of func421 Y rfl;have eS:∀args w,(callFunc 417 args).run prog w=.ok (.enter 417 args) w:=enters_of func417 Y rfl
 go_enter func362,ntmps362
 go_wp2
 go_loopw [6] (λZ wr=>∃(i:Nat) (dk:Zp Int),Z=Zh Zi i/\0<i/\i<=b+1/\dk.size=d.size/\SW (Value.int .i64) w oz off dk wr/\
  insOuter D3 0 b i dk=insOuter D3 0 b (0+1) d) (λZ _=>b+1-(intOf Z).toNat)
 case atStart=>exact⟨1,d,by rfl,YA,YA,rfl,SW.start hH,rfl⟩
 case round=>
  obtain⟨i,dk,rfl,hai,hib,hsk,BM,hO⟩:=hrel;have HO:Hid (insOuter D3 0 b i dk=insOuter D3 0 b (0+1) d):=hO;clear hO
  go_wp2
  ·go_loopw [7] (λvj wr2=>∃(j:Nat) (dj:Zp Int),vj=Zh Zi j/\j<=i/\dj.size=d.size/\SW (Value.int .i64) w oz off dj wr2/\
    insInner D3 0 j dj=insInner D3 0 i dk) (λvj _=>(intOf vj).toNat)
   case atStart=>grind
   case round=>
    obtain⟨j,dj,rfl,H8,hsj,C8,hI⟩:=hrel;have bD:i<b:=YA;have HW:Hid (SW (Value.int .i64) w oz off dj wr):=C8;have HI:Hid (insInner D3 0 j dj=insInner D3 0 i dk):=hI;have hHj:=C8.holds zI hH hsj;have hbw:=C8.lt zI;have hRw:wr.cell? ⟨bR,0,Zd⟩=L (.iface 272 (SV oz off d.size c)):=(SW.ZgL C8 hRb gL).trans hR;clear C8 hI;have out:(j<=0\/D3 dj[j]! dj[j-1]! = Zf)->∀W,SW (Value.int .i64) w oz off dj W->∃(i':Nat) (dk':Zp Int),Value.int .i64 ((i:Int)+1)=Zh Zi (i':Nat)/\0<i'/\i'<=b+1/\dk'.size=d.size/\
     SW (Value.int .i64) w oz off dk' W/\insOuter D3 0 b i' dk'=insOuter D3 0 b (0+1) d:=λhs W hW=>
     ⟨i+1,dj,by rfl,YA,YA,hsj,hW,
      by rw[<-HO.out,insOuter_go _ _ _ _ _ bD,<-HI.out,insInner_stop _ _ _ _ hs]⟩
    have OUT:Hid _:=out;clear out
    by_cases hja:0<j
    ·have mL:=Zc4 wr bR _ hRw
     simp at mL
     have hl:=Zc2 oz off c d.size wr (λt=>dj[t]!) (λt ht=>(hHj t YA).1) hbw j (j-1) YA YA xh
     rw[show(((j-1:Nat):Int))=(j:Int)-1 by omega]at hl
     have W2:Hid (∀o q,SW (Value.int .i64) w oz off dj ((wr.alloc o).drewN q)):=λo q=>(HW.out.alloc o).drewN q
     have mS : ∀ o q, Sem.run prog (method (prog.types.size + 100) 318 (RP bR) "Swap") ((wr.alloc o).drewN q) = .ok (417, SV oz off d.size c) ((wr.alloc o).drewN q) := λo q =>
      SR ((wr.alloc o).drewN q) bR 417 (SV oz off d.size c) "Swap" ((SW.ZgL (W2.out o q) hRb gL).trans hR) Y (ZeU _ _ _ _ _)
     simp at mS
     have hsw:∀o q,Calls prog 417 #[SV oz off d.size c,Zh Zi j,Zh Zi ((j-1:Nat):Int)] ((wr.alloc o).drewN q) λe w'=>e=.returned (.tuple #[])/\SW (Value.int .i64) w oz off (swp dj j (j-1)) w':=λo q=>by
      have hh:=(W2.out o q).holds zI hH hsj;refine(Zb5 oz off c d.size _ _ _ j (j-1) YA YA xh (hh j YA).1 (hh (j-1) YA).1 (hh j YA).2 (hh (j-1) YA).2).mono ?_;rintro e w' ⟨rfl,q',rfl⟩;exact⟨rfl,((W2.out o q).swap zI j (j-1) YA YA).drewN q'⟩
     rw[show(((j-1:Nat):Int))=(j:Int)-1 by omega]at hsw
     change Calls _ _ _ _ λe w'=>e=.returned (.bool (D3 dj[j]! dj[j-1]!))/\_ at hl
     cases vE:D3 dj[j]! dj[j-1]! with
     |true=>
      rw[vE]at hl
      go_wp2_with (first
       |(go_at_fn 421;refine hl.mono ?_;rintro e w' ⟨rfl,o,q,rfl⟩)
       |(go_at_fn 417;refine(hsw _ _).mono ?_;rintro e w' ⟨rfl,hS⟩))
      go_roundw
      case rel=>
       (repeat apply Exists.intro)
       refine⟨⟨j-1,swp dj j (j-1),by congr 1<;>omega,YA,by rw[size_swp];omega,hS,?_⟩,by rw[Yi bD,show((j-1:Nat):Int)=(j:Int)-1 by omega]⟩
       rw[<-HI.out,insInner_go D3 0 j dj hja vE]
      case measure=>simp[intOf];omega
     |false=>
      rw[vE]at hl
      go_wp2_with (go_at_fn 421;refine hl.mono ?_;rintro e w' ⟨rfl,o,q,rfl⟩)
      go_roundw
      case rel=>exact OUT.out (Or.inr vE) _ (W2.out o q)
      case measure=>simp[intOf];omega
    ·go_wp2
     go_roundw
     case rel=>exact OUT.out (Or.inl YA) _ HW.out
     case measure=>simp[intOf];omega
  ·have Cz:¬i<b:=YA
   go_end0
   exact⟨rfl,by unfold Sort.insertionSort;rw[<-HO.out,insOuter_stop _ _ _ _ _ Cz];omega⟩
end Go.Proofs.YtbjbellffaenaaaGreatDoor
namespace Go.Proofs.YtbjbellffaenaaaGreatDoor
open Go.RowKit Go.Lib Go.Sort
def Zm6(oz off c lim bR:Nat)(d:Zp Int)(w:World)(hH:Holds (Value.int .i64) w oz off d)(zI:oz<w.heap.size)(hd:d.size=3)(hR:w.cell? ⟨bR,0,Zd⟩=L (.iface 272 (SV oz off d.size c)))(hRb:bR<w.heap.size)(gL:bR≠oz):
 Calls prog 318 #[.iface 318 (RP bR),Zh Zi 0,Zh Zi 3,Zh Zi lim] w λe w'=>e=.returned (.tuple #[])/\SW (Value.int .i64) w oz off (Sort.insertionSort D3 d 0 3) w':=by
 have hi:=ZeR oz off c 3 bR d w hH zI hR hRb gL YA YA YA;rw[show((3:Nat):Int)=3 from rfl]at hi
 clear hH hR
 go_enter func318,ntmps318
 go_wp2
 go_loopw [1,2] (λv1 v2 wr=>v1=Zh Zi 0/\v2=Zh Zi 3/\wr=w) (λ_ _ _=>0)
 case atStart=>simp
 case round=>
  obtain⟨rfl,rfl,rfl⟩:=hrel
  go_wp2_with (go_at_call 362;refine hi.mono ?_;rintro e w' ⟨rfl,hS⟩)
  (try simp only[Exit.inBlock,Exit.then])
  refine bodyPost_ret (results_none rfl _ _ _) rfl ?_
  simp_all
def Zdt(oz off c bR:Nat)(d:Zp Int)(w:World)(hH:Holds (Value.int .i64) w oz off d)(zI:oz<w.heap.size)(hd:d.size=3)(hR:w.cell? ⟨bR,0,Zd⟩=L (.iface 272 (SV oz off d.size c)))(hRb:bR<w.heap.size)(gL:bR≠oz):
 Calls prog 266 #[.iface 318 (RP bR)] w λe w'=>e=.returned (.tuple #[])/\SW (Value.int .i64) w oz off (Sort.insertionSort D3 d 0 3) w':=by
 have mN := SR w bR 414 (SV oz off d.size c) "Len" hR Y (Zif _ _ _ _ _)
 simp at mN
 have eN:∀args w,(callFunc 414 args).run prog w=.ok (.enter 414 args) w:=enters_of func414 Y rfl;have hN:=ZeV oz off c d.size w;have hL:=Tryz.bits_Len 3 w YA YA;have hp:=λlim=>Zm6 oz off c lim bR d w hH zI hd hR hRb gL
 rw[hd]at mN hN
 rw[show((3:Nat):Int)=3 from rfl]at hN
 clear hH hR
 go_enter func266,ntmps266
 go_wp2_with (first
  |(go_at_fn 414;refine hN.mono ?_;rintro e w' ⟨rfl,rfl⟩)
  |(go_at_call 228;refine hL.mono ?_;rintro e w' ⟨rfl,rfl⟩)
  |(go_at_call 318;refine(hp _).mono ?_;rintro e w' ⟨rfl,hS⟩))
 all_goals first
  |(exfalso;omega)
  |(go_end0;simp_all)
end Go.Proofs.YtbjbellffaenaaaGreatDoor
namespace Go.Proofs.YtbjbellffaenaaaGreatDoor
open Go.RowKit
variable {A:V Addr}{B E base bytes cap e g k m n t:Nat}{P:Program}{Q:Exit->Act->World->Prop}{a:Act}{o:Oper}{row:V Nat}{v:Value}{α:Type}{ys:O α}
structure Tx(P:Program)(t e:TypeId)(k bytes:Nat):Prop where
 ht:P.underlying t=L (.slice e)
 info:∃i z,P.info? e=L i/\i.zero=L z/\i.size=k/\i.bytes=bytes/\z.cells.size=k
theorem Tx.mk'{t e:TypeId}{z:Value}(ht:P.underlying t=L (.slice e))(h:(P.info? e).map (λi=>(i.zero,i.size,i.bytes))=L (L z,k,bytes))(hz:z.cells.size=k):Tx P t e k bytes:=by
 obtain⟨i,h1,h2,h3,h4⟩:=info_parts h;exact⟨ht,i,z,h1,h2,h3,h4,hz⟩
theorem Own.form[eZ α]{w:World}{xs:O α}(h:Own w B E v xs):∃A c,v=.slice A (Zm xs) c/\(Zm xs)<=c/\c<=maxLen:=by
 rcases h.2 with⟨hv,h0⟩ |⟨g,cap,cur,hv,_,_,xW,EX,_⟩
 all_goals grind
theorem Own.Zfl[eZ α](w:World)(B E:Nat):Own w B E (.slice Zd 0 0) ([]:O α):=World.ownsRow_nil _ _ _ _
theorem Own.empty[eZ α](w:World)(B E c:Nat)(cur:Zp Value)(hB:B<=w.heap.size)(hm:c<=maxLen)(hs:cur.size=c*eZ.k α):
 Own (w.alloc (.cells cur E)) B E (.slice (L ⟨w.heap.size,0,Zd⟩) 0 c) ([]:O α):=World.ownsRow_made w cur c hB hm hs
theorem Own.more[eZ α]{w:World}{B B' E:Nat}{xs:O α}(h:Own w B E v xs)(hB:B'<=B):Own w B' E v xs:=by
 refine⟨h.1,?_⟩
 rcases h.2 with h2|⟨g,cap,cur,hv,hb,r⟩
 ·simp_all
 ·exact .inr ⟨g,cap,cur,hv,YA,r⟩
theorem Own.down[eZ α]{w0 W w:World}{xs:O α}(h:Own w W.heap.size E v xs)(hu:Up w0 W):Own w w0.heap.size E v xs:=h.more hu.size
theorem Up.le{w0 w:World}(h:Up w0 w):w0.heap.size<=w.heap.size:=h.size
theorem Own.grown[eZ α]{w w':World}{xs:O α}(h:Own w B E v xs)(hg:w.grownBy w' row)(gL:v.ownBlock=Zd\/v.ownBlock≠row):Own w' B E v xs:=
 World.ownsRow.kept h hg gL
theorem Rd.one[eZ α](w:World)(T:TypeId)(x:α)(B:Nat)(hB:w.heap.size<B):Rd (w.alloc (.cells (eZ.cells x).toArray T)) B (L ⟨w.heap.size,0,Zd⟩) [x]:=by
 intro _;refine⟨w.heap.size,0,rfl,hB,λj u hu=>?_⟩
 rw[Zbn]at hu
 simp_all
def qk(w0 w:World)(B E k:Nat)(g n cap m:Nat)(ys:O Value):Prop:=
 ∃cs:O Value,w.ownsRow B E k (.slice (L ⟨g,0,Zd⟩) n cap) n cs/\cs.take m=ys.take m/\w0.grownBy w (L g)
theorem qk.start{w:World}{cs ys:O Value}(h:w.ownsRow B E k (.slice (L ⟨g,0,Zd⟩) n cap) n cs):qk w w B E k g n cap 0 ys:=
 ⟨cs,h,by simp,⟨rfl,rfl,rfl,VW _,λ_ _ _=>rfl⟩⟩
theorem qk.cell{w0 w:World}{ys:O Value}(h:qk w0 w B E k g n cap m ys){j:Nat}(hj:j<n*k):∃u,w.cell? ⟨g,j,Zd⟩=L u:=by
 obtain⟨cs,ho,_⟩:=h;have hl:Zm cs=n*k:=ho.1;exact⟨cs[j]' YA,by rw[ho.cellAt j hj];simp⟩
theorem qk.frozen{w0 w:World}{ys:O Value}(h:qk w0 w B E k g n cap m ys)(j:Nat):w.frozen? ⟨g,j,Zd⟩=false:=by
 obtain⟨cs,ho,_⟩:=h;exact ho.frozenAt j
theorem H3{a b c:World}(h:a.grownBy b row)(k:b.grownBy c row):a.grownBy c row:=
 ⟨k.os.trans h.os,k.tape.trans h.tape,k.output.trans h.output,Wd h.size k.size,λi hi gL=>(k.block i (Wn hi h.size) gL).trans (h.block i hi gL)⟩
theorem qk.Znf{w0 w:World}{ys:O Value}(h:qk w0 w B E k g n cap m ys)(hm:m<n*k)(hy:ys[m]?=L v):
 qk w0 (w.setCell ⟨g,m,Zd⟩ v) B E k g n cap (m+1) ys:=by
 obtain⟨cs,ho,ht,hg⟩:=h;have hl:Zm cs=n*k:=ho.1;obtain⟨h1,h2⟩:=ho.stored m v;exact⟨cs.set m v,h1,Ak YA hy ht,H3 hg h2⟩
theorem qk.drewN{w0 w:World}{B E k g n cap m:Nat}{ys:O Value}(h:qk w0 w B E k g n cap m ys)(q:Nat):qk w0 (w.drewN q) B E k g n cap m ys:=by
 obtain⟨cs,ho,ht,hg⟩:=h;exact⟨cs,ho,ht,⟨hg.os,hg.tape,hg.output,hg.size,hg.block⟩⟩
theorem qk.own[eZ α]{w0 w:World}(h:qk w0 w B E (eZ.k α) g n cap (n*eZ.k α) (Zq ys))(hn:Zm ys=n):Own w B E (.slice (L ⟨g,0,Zd⟩) n cap) ys/\w0.grownBy w (L g):=by
 obtain⟨cs,ho,ht,hg⟩:=h;have hl:Zm cs=n*eZ.k α:=ho.1;have e1:(Zq ys).take (n*eZ.k α)=Zq ys:=Xh (by rw[nd,hn];omega)
 rw[e1,Xh YA]at ht
 subst ht;refine⟨?_,hg⟩;unfold Own
 simp_all
theorem addr_add(b o j:Nat):(⟨b,o,Zd⟩:Addr).add j=⟨b,o+j,Zd⟩:=by unfold Addr.add;simp
theorem AQ[eZ α](w:World){t ty e:Nat}{i:TypeInfo}(ht:P.underlying t=L (.slice e))(hi:P.info? e=L i)(pj:Own w base e v ys)(c:Nat):
 (Builtin.append_ #[t,t] ty #[v,.slice Zd 0 c]).run P w=.ok v w:=by
 rcases pj.2 with⟨rfl,h0⟩ |⟨g,cap,cur,rfl,_,_,xW,_⟩
 ·simp[Builtin.append_,run_underlying ht,sizeOf,typeInfo,hi,Builtin.lenOf,Builtin.firstCells]
 ·simp[Builtin.append_,run_underlying ht,sizeOf,typeInfo,hi,Builtin.lenOf,Builtin.firstCells,xW,storeCells]
theorem Im[eZ α](w:World){t ty e bytes:Nat}(T:Tx P t e (eZ.k α) bytes)(pj:Own w base e v ys)
 {c:Nat} {xs:O α} (hr:Rd w B A xs) (sN:(Zm ys+Zm xs)*bytes<=140737488355328) (h63:Zm ys+Zm xs<=maxLen) (M9:base<=w.heap.size):
 ∃v' w',(Builtin.append_ #[t,t] ty #[v,.slice A (Zm xs) c]).run P w=.ok v' w'/\Own w' base e v' (ys++xs)/\w.grownBy w' v.ownBlock/\(v'.ownBlock=v.ownBlock\/v'.ownBlock=L w.heap.size):=by
 obtain⟨i,z,hi,hz,hs,hb,hzs⟩:=T.info
 cases A with
 |none=>
  have hx:xs=[]:=by
   rcases Classical.em (xs=[])with h|h
   ·exact h
   ·obtain⟨_,_,h',_⟩:=hr h
    grind
  subst hx;have kZ:=AQ (P:=P) w (ty:=ty) T.ht hi pj c;exact⟨v,w,YA,by simp_all,⟨rfl,rfl,rfl,VW _,λ_ _ _=>rfl⟩,.inl rfl⟩
 |some ad=>
  have Sm:∀j u,(Zq xs)[j]?=L u->w.cell? (ad.add j)=L u:=by
   intro j u hu;have gL:xs≠[]:=by rintro rfl;simp[Zq]at hu
   obtain⟨b,off,hA',_,hc⟩:=hr gL;injection hA' with hA'
   subst hA';rw[addr_add]
   simp_all
  obtain⟨v',w',kZ,h2,h3,_,h5⟩:=run_append_own_at (P:=P) w base t ty e i z (eZ.k α) bytes T.ht hi hz hs hb hzs eZ.pos v (Zm ys) (Zq ys) pj ad (Zm xs) c (Zq xs) (nd xs) Sm (Kc xs) h63 sN M9;refine⟨v',w',kZ,?_,h3,h5⟩;have e1:Zm (ys++xs)=Zm ys+Zm xs:=List.length_append;unfold Own;rw[e1,MW];omega
theorem Up.ZhT[eZ α]{w0 w w':World}(h:Up w0 w)(hg:w.grownBy w' v.ownBlock)(pj:Own w base e v ys)(hb:w0.heap.size<=base):Up w0 w':=
 Below.grown h hg h.size (λk hk=>Wd hb (World.ownsRow.lt pj k hk).1)
theorem LB[eZ α]{w:World}{K:Act->World->Prop}(T:Tx P t e (eZ.k α) bytes)
 (s x:Operand) (ho:o.op=.call { callee:=.builtin .append,args:=#[s,x],argTypes:=#[t,t]})
 (hs:a.eval s=v) (pj:Own w base e v ys)
 {c:Nat} {xs:O α} (n:Nat) (hx:a.eval x=.slice A n c) (hn:n=Zm xs) (hr:Rd w B A xs)
 (sN:(Zm ys+Zm xs)*bytes<=140737488355328) (h63:Zm ys+Zm xs<=maxLen) (M9:base<=w.heap.size)
 (h:∀v' w',Own w' base e v' (ys++xs)->w.grownBy w' v.ownBlock->(v'.ownBlock=v.ownBlock\/v'.ownBlock=L w.heap.size)->(∀w0,w0.heap.size<=base->Up w0 w->Up w0 w')->K (a.put o.dst v') w'):
 o.wp P a w K Q:=by
 subst hn;obtain⟨v',w',kZ,h2,h3,h4⟩:=Im (P:=P) w (ty:=o.type) (c:=c) T pj hr sN h63 M9;unfold Oper.wp execOp;simp only[ho,resolve,invoke,builtin,Sem.run_bind,Sem.run_pure,Result.andThen_ok,List.map_toArray,List.map_cons,List.map_nil,hs,hx,kZ];exact h v' w' h2 h3 h4 λw0 hb hu=>Up.ZhT hu h3 pj hb
theorem gb[eZ α]{w:World}{ops:Zp Oper}{rest:O Oper}(T:Tx P t e (eZ.k α) bytes)
 (hgd:o.guard=Zd) (s x:Operand) (ho:o.op=.call { callee:=.builtin .append,args:=#[s,x],argTypes:=#[t,t]})
 (hs:a.eval s=v) (pj:Own w base e v ys)
 {c:Nat} {xs:O α} (n:Nat) (hx:a.eval x=.slice A n c) (hn:n=Zm xs) (hr:Rd w B A xs)
 (sN:(Zm ys+Zm xs)*bytes<=140737488355328) (h63:Zm ys+Zm xs<=maxLen) (M9:base<=w.heap.size)
 (h:∀v' w',Own w' base e v' (ys++xs)->w.grownBy w' v.ownBlock->(v'.ownBlock=v.ownBlock\/v'.ownBlock=L w.heap.size)->(∀w0,w0.heap.size<=base->Up w0 w->Up w0 w')->wpList P ops Q rest (a.put o.dst v') w'):
 wpList P ops Q (o::rest) a w:=
 wpList_plain hgd λ_ hK=>LB T s x ho hs pj n hx hn hr sN h63 M9 λv' w' h2 h3 h4 h5=>hK _ _ (h v' w' h2 h3 h4 h5)
end Go.Proofs.YtbjbellffaenaaaGreatDoor
namespace Go.Proofs.YtbjbellffaenaaaGreatDoor
open Go.RowKit Go.Lib Go.Sort
def Sa:Tx prog 25 3 (eZ.k Int) 8:=Tx.mk' (z:=Zh Zi 0) Tryz.underlying25 Y rfl
def u9(ls:O Int):Zq ls=ls.map (Value.int .i64):=by
 induction ls with
 |nil=>rfl
 |cons x xs ih=>rw[wL,ih];rfl
def Zm2{w:World}{B:Nat}{v:Value}{xs:O Int}(h:Own w B 3 v xs)(hl:Zm xs=3):∃g cap cur,v=.slice (L ⟨g,0,Zd⟩) 3 cap/\B<=g/\w.heap[g]?=L (.cells cur 3 (0,0))/\3<=cap/\cap<=maxLen/\cur.size=cap*1/\cur.toList.take 3=xs.map (Value.int .i64):=by
 rcases h.2 with⟨_,h0⟩ |⟨g,cap,cur,hv,hB,hg,xW,EX,tv,ht⟩
 ·omega
 ·rw[hl]at hv xW ht
  rw[u9]at ht
  exact⟨g,cap,cur,hv,hB,hg,xW,EX,tv,ht⟩
def Zc3(W:World)(sv:Value):Calls prog 267 #[.iface 272 sv] W λe w'=>e=.returned (.iface 318 (RP W.heap.size))/\w'=W.alloc (.cells #[.iface 272 sv] 320):=by
 go_enter func267,ntmps267
 go_wp2
 go_ret
 simp
def EH(xs:O Int):O Int:=(Sort.insertionSort D3 xs.toArray 0 3).toList
def Ai(lt:Int->Int->Bool)(a:Nat):∀(j:Nat) (d:Zp Int),(insInner lt a j d).size=d.size
 |0,d=>rfl
 |j+1,d=>by
  unfold insInner
  split
  ·rw[Ai lt a j,size_swp]
  rfl
def Aj(lt:Int->Int->Bool)(a b:Nat):∀(n i:Nat) (d:Zp Int),b-i<=n->(insOuter lt a b i d).size=d.size
 |0,i,d,h=>by rw[insOuter,if_neg YA]
 |n+1,i,d,h=>by
  rw[insOuter]
  split
  ·rw[Aj lt a b n (i+1) _ YA,Ai]
  rfl
def O2(xs:O Int):Zm (EH xs)=Zm xs:=by
 unfold EH Sort.insertionSort;rw[Array.length_toList,Aj _ _ _ 3 _ _ YA];simp
def Io(A:V Addr)(xs:O Int)(c:Nat)(w:World)(hr:Rd w w.heap.size A xs)(hl:Zm xs=3):
 Calls prog 221 #[.slice A 3 c] w λe w'=>∃v,e=.returned v/\Own w' w.heap.size 3 v (EH xs)/\Up w w':=by
 go_enter func221,ntmps221
 go_wp2_with (at_builtin;refine gb Sa rfl (.tmp 4) (.tmp 5) rfl (base:=w.heap.size) (ys:=[]) YT (Own.empty w _ _ 0 _ (VW _) YR rfl) 3 YT hl.symm (hr.up YB) YL YV (by first|(simp;done) |(simp;omega) |(have h_:=hB.size;omega) |(have h_:=hB.size;simp;omega)) ?_;intro v' w1 Ng hg1 _ vJ;refine Hid.out ?_)
 refine Lib.hid ?_;have ho:Own w1 w.heap.size 3 v' xs:=by simpa using Ng
 have hu:=vJ w (VW _) YB;obtain⟨g,cap,cur,rfl,hgB,hgh,h3,EX,tv,hct⟩:=Zm2 ho hl;have vd:g<w1.heap.size:=(Array.getElem?_eq_some_iff.1 hgh).1;have hRv:=Zc3 w1 (SV g 0 3 cap);have hg2:∀o,(w1.alloc o).heap[g]?=L (.cells cur 3 (0,0)):=λo=>(Below.block (Up.al o (Up.rfl' w1)) g vd).trans hgh
 have xh:∀o,(w1.alloc o).heap.size=w1.heap.size+1:=λo=>by simp
 have hS:∀o,o=Obj.cells #[.iface 272 (SV g 0 3 cap)] 320 (0,0)->_:=λo ho=>Zdt g 0 cap w1.heap.size xs.toArray (w1.alloc o) (holds_of_blockI (hg2 o) (by rw[hl];exact hct)) (by rw[xh];omega) (by simp[hl]) (by subst ho;rw[cell_of_row _ _ 0 _ _ (0,0) (heap_alloc_new w1 _)];simp[hl]) (by rw[xh];omega) YA
 have LJ:=hS _ rfl;clear hS
 go_wp2_with (first
  |(go_at_call 267;refine hRv.mono ?_;rintro e w' ⟨rfl,rfl⟩)
  |(go_at_call 266;refine LJ.mono ?_;rintro e w' ⟨rfl,hSW⟩))
 go_ret
 obtain⟨n,os,rfl⟩:=hSW;have bD:Zm (EH xs)=Zm xs:=O2 xs;have pj:=ownsRow_sortedI (n:=n) (os:=os) (ss:=xs) (ts:=EH xs) bD hgB (hg2 (Obj.cells #[.iface 272 (SV g 0 3 cap)] 320 (0,0))) YA EX tv;refine⟨_,rfl,?_,?_⟩
 ·unfold Own
  rw[bD,u9];rw[hl]at pj⊢
  unfold EH at pj⊢
  exact pj
 ·have Qc:=grownBy_sortedI (w:=w1.alloc (Obj.cells #[.iface 272 (SV g 0 3 cap)] 320 (0,0))) (g:=g) (n:=n) (os:=os) (Sort.insertionSort D3 xs.toArray 0 3)
  have Ab:=Up.al (Obj.cells #[.iface 272 (SV g 0 3 cap)] 320 (0,0)) hu;exact⟨Qc.os.trans Ab.os,Qc.tape.trans Ab.tape,Qc.output.trans Ab.output,Wd Ab.size Qc.size,λb hb=>(Qc.block b (Wn hb Ab.size) YD).trans (Ab.block b hb)⟩
end Go.Proofs.YtbjbellffaenaaaGreatDoor
namespace Go.Proofs.YtbjbellffaenaaaGreatDoor
open Go.RowKit
def uU{α:Type}[eZ α]{c:α->O PV}{T:TypeId}{S:Nat->Prop}{β:Nat->V sx}{w w':World}{v:Value}{ys:O α}{ω:Nat->Key->Prop}(hk:Ok w (oW β) (E1 S β 0 ω) w [])(ho:Own w' w.heap.size T v ys)(hu:Up w w')
 (hc:∀(x:α),Zm (c x)=eZ.k α/\∀(j:Nat) (p:PV),(c x)[j]?=L p->∃u,(eZ.cells x)[j]?=L u/\u.oneCell'=Ze/\∀(w:World) (E:Env),eC w E p u):
 ∃E',Ok w (oW β) E' w' [L ⟨T,eZ.k α,ys.map c⟩]/\(∀b,S b->E'.S b)/\(∀b,E'.S b->S b\/w.heap.size<=b\/oW β b)/\((∀l B,l<0->E'.β l=L B->β l=L B)/\∀b q,E'.ω b q->ω b q\/w.heap.size<=b\/oW β b)/\eC w' E' (.ms 0) v:=by
 have Zj7:∀(i:Nat) (cs:O PV),(ys.map c)[i]?=L cs->Zm cs=eZ.k α:=by
  intro i cs hi;rw[Wp]at hi
  obtain⟨y,_,rfl⟩:=Wc.1 hi;exact(hc y).1
 have key:∀(B:sx),v=B.sv->v.oneCell'=Ze->(B.z=Zf->w.heap.size<=B.b/\B.b<w'.heap.size)->(∀E,iA w' E ⟨T,eZ.k α,ys.map c⟩ B)->
  ∃E',Ok w (oW β) E' w' [L ⟨T,eZ.k α,ys.map c⟩]/\(∀b,S b->E'.S b)/\(∀b,E'.S b->S b\/w.heap.size<=b\/oW β b)/\((∀l B,l<0->E'.β l=L B->β l=L B)/\∀b q,E'.ω b q->ω b q\/w.heap.size<=b\/oW β b)/\eC w' E' (.ms 0) v:=by
  intro B hv h1 hB hb;obtain⟨h2,_⟩:=hk.new (ν:=0) (λh=>absurd h (Yj 0)) ⟨T,eZ.k α,ys.map c⟩ B hu.os hu.tape hu.output hu.size (λb hb=>hu.block b hb) hB (λ_=>hb _)
  refine⟨_,h2,λb h=>h,λb h=>.inl h,⟨λl B h=>absurd h (Yj l),λ_ _ h=>.inl h⟩,.ms 0 v (.inl rfl) h1 λB' ph=>?_⟩
  have:B'=B:=by simpa[Env.add,eq_comm]using ph
  rw[this];exact hv
 rcases ho.2 with⟨hv,h0⟩ |⟨g,cap,cur,hv,hB,hg,xW,EX,tv,ht⟩
 ·have hy:ys=[]:=List.length_eq_zero_iff.1 h0
  subst hy;exact key ⟨0,0,0,eZ.k α,T,Ze⟩ (by rw[hv];rfl) (by rw[hv];rfl) (λh=>by cases h) λE=>⟨rfl,rfl,rfl,eZ.pos,VW _,Ws _,Zj7,λ_=>rfl,λh=>YM,λ_ h=>by cases h⟩
 ·refine key ⟨g,cap,Zm ys,eZ.k α,T,Zf⟩ (by rw[hv];rfl) (by rw[hv];rfl) (λ_=>⟨hB,(Array.getElem?_eq_some_iff.1 hg).1⟩) λE=>⟨rfl,by simp,rfl,eZ.pos,xW,EX,Zj7,(λh=>by cases h),λ_=>⟨cur,hg,tv,λi cs j p hi hj=>?_⟩,λ_ h=>by cases h⟩
  rw[Wp]at hi
  obtain⟨y,hy,rfl⟩:=Wc.1 hi;obtain⟨hl,ta⟩:=hc y;obtain⟨u,vJ,Ab,hu3⟩:=ta j p hj;refine⟨u,?_,Ab,hu3 _ _⟩;have hf:=xu hy vJ;have bD:=(VT.1 hf).1;rw[nd]at bD
  have:=D (λl:O Value=>l[i*eZ.k α+j]?) ht
  have h2:(cur.toList.take (Zm ys*eZ.k α))[i*eZ.k α+j]?=(Zq ys)[i*eZ.k α+j]?:=this;rw[List.getElem?_take_of_lt bD,Array.getElem?_toList,hf]at h2
  exact h2
end Go.Proofs.YtbjbellffaenaaaGreatDoor
namespace Go.Proofs.YtbjbellffaenaaaGreatDoor
open Go.RowKit Go.Lib
def oH(l:O Int):V (O Int):=if (Zm l)=3 then L (EH l)else Zd
def ZfP{w:World}{S:Nat->Prop}{xs:O Int}{x:Value}(xh:∀b,S b->b<w.heap.size)(h:eO w S (.sl (xs.map aW)) x):∃A c,x=.slice A (Zm xs) c/\(Zm xs)<=c/\Rd w w.heap.size A xs:=by
 generalize hq:PV.sl (xs.map aW)=q at h
 cases h with
 |v x h=>grind
 |ud=>grind
 |un=>grind
 |rp=>grind
 |fn=>grind
 |nil A c=>
  have:xs=[]:=by simp_all
  exact⟨A,c,by simp_all,by simp_all,by rw[this];exact Rd.Zfl⟩
 |sl es b off k c u hS hkp xW hm zq ta h1 hrr=>
  obtain rfl:xs.map aW=es:=by simp_all
  refine⟨_,c,by simp,by simp_all,λgL=>⟨b,off,rfl,xh b hS,λj u' Nn=>?_⟩⟩
  have iZ:0<Zm xs:=List.length_pos_iff.2 gL;have hk1:k=1:=(zq 0 (aW xs[0]) YE).symm;subst hk1;rw[u9]at Nn
  rw[Wp]at Nn
  obtain⟨y,hy,rfl⟩:=Wc.1 Nn;have hj:=(VT.1 hy).1;have e1:(xs.map aW)[j]?=L (aW y):=by simp_all
  have hc:=ta j _ 0 (Z y) e1 rfl;have hz:=hrr j _ 0 (Z y) e1 rfl;have xB:u j 0=Zh Zi y:=by
   generalize hp:u j 0=z at hz
   cases hz with
   |v _ _=>rfl
  simp_all
def B9(l:O Int){r:O Int}(H:oH l=L r):eh prog 221 [.sl (l.map aW)] [] (.ms 0) [L ⟨.of 3,1,r.map aW⟩]:=by
 unfold oH at H
 split at H
 case isFalse=>cases H
 rename_i hl3;obtain rfl:=Option.some.inj H;intro S β w vs ω hk hl ha;obtain⟨x,hx0,hr⟩:=ha 0 _ rfl;have hv:vs=#[x]:=by
  grind
 subst hv;have hr0:eO w S (.sl (l.map aW)) x:=by cases hr with|c h=>exact h
 obtain⟨A,c,rfl,ZhZ,IN⟩:=ZfP hk.sz hr0;rw[hl3];refine(Io A l c w IN hl3).mono ?_;rintro e w' ⟨v,rfl,ho,hu⟩;obtain⟨E',h1,h2,h3,h4,h5⟩:=uU (c:=aW) hk ho hu (λx=>⟨rfl,λj p hj=>by
  cases j with
  |zero=>obtain rfl:Z x=p:=by simp_all
         exact⟨_,rfl,rfl,λw E=>.c (.v _ rfl)⟩
  |succ j=>simp_all⟩)
 exact⟨v,E',rfl,h1,h2,h3,h4,h5⟩
instance (l:O Int):CT prog (oH l):=⟨221,[.sl (l.map aW)],[],λr=>.ms 0,λr=>[L ⟨.of 3,1,r.map aW⟩],B9 l⟩
end Go.Proofs.YtbjbellffaenaaaGreatDoor
namespace Go.Proofs.YtbjbellffaenaaaGreatDoor
open Go.RowKit
instance :eZ X where
 cells x:=[.string x]
 k:=1
 len _:=rfl
 pos:=by decide
 one:=by simp[Value.oneCell']
def CW(ls:O X):Zq ls=ls.map Value.string:=by
 induction ls with
 |nil=>rfl
 |cons x xs ih=>rw[wL,ih];rfl
