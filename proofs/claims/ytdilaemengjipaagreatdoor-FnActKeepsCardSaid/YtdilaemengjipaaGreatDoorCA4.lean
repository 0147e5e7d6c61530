/- A part of the proof of the statement in the last file of this claim: texts on the language of the program and on its functions. No condition. -/
import Derived.Test.YtdilaemengjipaaGreatDoorCA3
import Derived.Test.YtdilaemengjipaaGreatDoorChecked
import Derived.Lib.SmallJoins
import Derived.IntWalk
import Derived.Shelf.Strings.Builder1
import Derived.Shelf.Strings.Builder2
import Derived.Shelf.Small.Bits
import Derived.Shelf.Strings.BuilderF
import Derived.Shelf.Strconv.Atoi
import Derived.Shelf.Strconv.Itoa0
import Derived.Shelf.Strconv.Itoa1
import Derived.Shelf.LaysM
import Derived.Shelf.Strconv.Itoa2
import Derived.Shelf.Strconv.Itoa3
import Derived.Shelf.Strconv.AtoiErrFast
import Derived.Shelf.Strconv.ParseIntEmpty
import Derived.Shelf.Strconv.AtoiFail
import Derived.Shelf.Strconv.Clone
import Derived.Shelf.Strconv.SyntaxError
import Derived.Shelf.LaysC
import Derived.Shelf.Strconv.ToError
import Derived.Shelf.Strconv.Lower
import Derived.Shelf.Strconv.ParseUint10
import Derived.Shelf.Strconv.ParseUint10Empty
import Derived.Shelf.Strconv.ParseUint10Any
import Derived.Shelf.Strconv.ParseInt10
import Derived.Shelf.Strconv.AtoiLong
import Derived.Shelf.Strconv.AtoiInnerAll
import Derived.Shelf.Strconv.RangeError
import Derived.Shelf.Strconv.ToErrorRange
import Derived.Shelf.Strconv.AtoiAll
import Derived.Shelf.Strings.Search1
import Derived.Shelf.Strings.Search2
import Derived.Shelf.Strings.Search3
import Derived.Shelf.Strings.Cut
import Derived.Shelf.Strings.Count
import Derived.Shelf.Strings.Shaped
import Derived.Shelf.Sort.Plain
import Derived.Ground.GgsProg
import Derived.Shelf.GgSortFunc.Insertion
import Derived.Shelf.GgSortFunc.InsertionK
import Derived.Shelf.GgSortFunc.Tiny
import Derived.Shelf.GgSortFunc.Compose
import Derived.Ground.GgtProg
import Derived.Shelf.GgSortMore.Stable
import Derived.Shelf.Strings.Prefix
import Derived.Shelf.Strings.Split
import Derived.Shelf.Strings.SplitShaped
import Derived.Shelf.Bits.Mul64
import Derived.Shelf.Strings.Repeat
import Derived.Shelf.Unicode.DecodeSlow
import Derived.Shelf.Slices.In.SortNone
import Derived.Shelf.Slices.In.SortNone2
import Derived.Test.YtdilaemengjipaaGreatDoorProg
import Derived.Shelf.GgSortMore.Iface
import Derived.Sort.OwnSortedInts
import Derived.Test.YtdilaemengjipaaGreatDoorCA1
import Derived.Laws.AppendOwnNone
import Derived.Maps.OwnSet
import Derived.StringKeys
import Derived.Deep.AppendLies
import Derived.Sort.OwnSorted
set_option linter.unusedVariables false
set_option linter.unusedSimpArgs false
set_option linter.unusedSectionVars false
open Go.Value renaming int->YM
open Go.IntKind renaming i64->YN
open Go renaming undef->YO
open Option renaming some->YH,none->YI
open Bool renaming true->YJ,false->YK
open Decidable renaming decide->YL
open Go.Proofs.Tryz
set_option maxHeartbeats 40000000
open List renaming mem_singleton->Wf,mem_cons->V1,not_mem_nil->V0,getElem?_eq_some_iff->VT,range->Wg,all_eq_true->V2,length_map->Wo,length_set->WI,mem_map->WE,set_eq_of_length_le->X0,replicate->V7,getElem?_map->Wj
open Nat renaming zero_le->Wu,le_trans->Wq,le_refl->VX
open Option renaming map_eq_some_iff->Wb,bind_some->VS,bind_eq_some_iff->XY
open Go.Shelf renaming Ren->WS
namespace Go.Proofs.YtdilaemengjipaaGreatDoor
set_option maxRecDepth 10000
open Go.RowKit
variable {KR:PV->Prop}{a a2 b b2 c c2 d d2:Int}{n:Nat}
instance :dy aE:=⟨λx q h=>by simp only[aE,Wf]at h;subst h;rfl⟩
instance :qJ aE:=⟨λx q h=>by simp only[aE,Wf]at h;subst h;rfl⟩
instance :dy jK:=⟨λx q h=>by simp only[jK,Wf]at h;subst h;rfl⟩
instance :qJ jK:=⟨λx q h=>by simp only[jK,Wf]at h;subst h;rfl⟩
instance :dy BB:=⟨λx q h=>by simp only[BB,Wf]at h;subst h;rfl⟩
instance :qJ BB:=⟨λx q h=>by simp only[BB,Wf]at h;subst h;rfl⟩
structure YR where
 v:Int
 deriving DecidableEq
def YQ(x:YR):List PV:=[v8 x.v]
instance :dt YR:=⟨YQ⟩
instance :dy YQ:=⟨λx q h=>by simp only[YQ,Wf]at h;subst h;rfl⟩
instance :qJ YQ:=⟨λx q h=>by simp only[YQ,Wf]at h;subst h;rfl⟩
structure aO where
 b:List YR
 i:Int
 h:Int
 deriving DecidableEq
def BL(x:aO):List PV:=[.sl (x.b.map YQ),vi x.i,vi x.h]
instance :dt aO:=⟨BL⟩
instance :dy BL:=⟨λx q h=>by simp only[BL,V1,V0,or_false]at h;(repeat' (first|(rcases h with rfl|h;rfl) |(subst h;rfl)))⟩
instance :dt cq:=⟨rH⟩
instance :dy rH:=⟨λx q h=>by simp only[rH,V1,V0,or_false]at h;(repeat' (first|(rcases h with rfl|h;rfl) |(subst h;rfl)))⟩
instance :qJ rH:=⟨λx q h=>by simp only[rH,V1,V0,or_false]at h;(repeat' (first|(rcases h with rfl|h;rfl) |(subst h;rfl)))⟩
instance :dt aT:=⟨bJ⟩
instance :dy bJ:=⟨λx q h=>by simp only[bJ,V1,V0,or_false]at h;(repeat' (first|(rcases h with rfl|h;rfl) |(subst h;rfl)))⟩
instance :dt bI:=⟨cG⟩
instance :dy cG:=⟨λx q h=>by simp only[cG,V1,V0,or_false]at h;(repeat' (first|(rcases h with rfl|h;rfl) |(subst h;rfl)))⟩
instance :qJ cG:=⟨λx q h=>by simp only[cG,V1,V0,or_false]at h;(repeat' (first|(rcases h with rfl|h;rfl) |(subst h;rfl)))⟩
instance :dt bL:=⟨cI⟩
instance :dy cI:=⟨λx q h=>by simp only[cI,V1,V0,or_false]at h;(repeat' (first|(rcases h with rfl|h;rfl) |(subst h;rfl)))⟩
instance :qJ cI:=⟨λx q h=>by simp only[cI,V1,V0,or_false]at h;(repeat' (first|(rcases h with rfl|h;rfl) |(subst h;rfl)))⟩
instance :dt bK:=⟨bn⟩
instance :dy bn:=⟨λx q h=>by simp only[bn,V1,V0,or_false]at h;(repeat' (first|(rcases h with rfl|h;rfl) |(subst h;rfl)))⟩
instance :qJ bn:=⟨λx q h=>by simp only[bn,V1,V0,or_false]at h;(repeat' (first|(rcases h with rfl|h;rfl) |(subst h;rfl)))⟩
instance :dt aj:=⟨bA⟩
instance :dy bA:=⟨λx q h=>by simp only[bA,V1,V0,or_false]at h;(repeat' (first|(rcases h with rfl|h;rfl) |(subst h;rfl)))⟩
instance :dt av:=⟨aW⟩
instance :dy aW:=⟨λx q h=>by simp only[aW,V1,V0,or_false]at h;(repeat' (first|(rcases h with rfl|h;rfl) |(subst h;rfl)))⟩
instance :qJ aW:=⟨λx q h=>by simp only[aW,V1,V0,or_false]at h;(repeat' (first|(rcases h with rfl|h;rfl) |(subst h;rfl)))⟩
instance :dt aq:=⟨aC⟩
instance :dy aC:=⟨λx q h=>by simp only[aC,V1,V0,or_false]at h;(repeat' (first|(rcases h with rfl|h;rfl) |(subst h;rfl)))⟩
instance :qJ aC:=⟨λx q h=>by simp only[aC,V1,V0,or_false]at h;(repeat' (first|(rcases h with rfl|h;rfl) |(subst h;rfl)))⟩
instance :dt bq:=⟨bt⟩
instance :dy bt:=⟨λx q h=>by simp only[bt,V1,V0,or_false]at h;(repeat' (first|(rcases h with rfl|h;rfl) |(subst h;rfl)))⟩
instance :qJ bt:=⟨λx q h=>by simp only[bt,V1,V0,or_false]at h;(repeat' (first|(rcases h with rfl|h;rfl) |(subst h;rfl)))⟩
instance :dt az:=⟨ba⟩
instance :dy ba:=⟨λx q h=>by simp only[ba,V1,V0,or_false]at h;(repeat' (first|(rcases h with rfl|h;rfl) |(subst h;rfl)))⟩
instance :dt ax:=⟨fY⟩
instance :dy fY:=⟨λx q h=>by simp only[fY,V1,V0,or_false]at h;(repeat' (first|(rcases h with rfl|h;rfl) |(subst h;rfl)))⟩
instance :dt aU:=⟨bC⟩
instance :dy bC:=⟨λx q h=>by simp only[bC,V1,V0,or_false]at h;(repeat' (first|(rcases h with rfl|h;rfl) |(subst h;rfl)))⟩
instance :qJ bC:=⟨λx q h=>by simp only[bC,V1,V0,or_false]at h;(repeat' (first|(rcases h with rfl|h;rfl) |(subst h;rfl)))⟩
instance :dt bV:=⟨gF⟩
instance :dy gF:=⟨λx q h=>by simp only[gF,V1,V0,or_false]at h;(repeat' (first|(rcases h with rfl|h;rfl) |(subst h;rfl)))⟩
instance :dt aL:=⟨lx⟩
instance :dy lx:=⟨λx q h=>by simp only[lx,V1,V0,or_false]at h;(repeat' (first|(rcases h with rfl|h;rfl) |(subst h;rfl)))⟩
instance :dt GW:=⟨wD⟩
instance :dy wD:=⟨λx q h=>by simp only[wD,V1,V0,or_false]at h;(repeat' (first|(rcases h with rfl|h;rfl) |(subst h;rfl)))⟩
instance :qJ wD:=⟨λx q h=>by simp only[wD,V1,V0,or_false]at h;(repeat' (first|(rcases h with rfl|h;rfl) |(subst h;rfl)))⟩
instance :dt J7:=⟨yY⟩
instance :dy yY:=⟨λx q h=>by simp only[yY,V1,V0,or_false]at h;(repeat' (first|(rcases h with rfl|h;rfl) |(subst h;rfl)))⟩
instance :dt J8:=⟨yZ⟩
instance :dy yZ:=⟨λx q h=>by simp only[yZ,V1,V0,or_false]at h;(repeat' (first|(rcases h with rfl|h;rfl) |(subst h;rfl)))⟩
instance :dt L9:=⟨xI⟩
instance :dy xI:=⟨λx q h=>by simp only[xI,V1,V0,or_false]at h;(repeat' (first|(rcases h with rfl|h;rfl) |(subst h;rfl)))⟩
instance :dt Qf:=⟨wR⟩
instance :dy wR:=⟨λx q h=>by simp only[wR,V1,V0,or_false]at h;(repeat' (first|(rcases h with rfl|h;rfl) |(subst h;rfl)))⟩
instance :qJ wR:=⟨λx q h=>by simp only[wR,V1,V0,or_false]at h;(repeat' (first|(rcases h with rfl|h;rfl) |(subst h;rfl)))⟩
instance :dt L8:=⟨xH⟩
instance :dy xH:=⟨λx q h=>by simp only[xH,V1,V0,or_false]at h;(repeat' (first|(rcases h with rfl|h;rfl) |(subst h;rfl)))⟩
attribute [go_sem] aE jK BB YQ BL rH bJ cG cI bn bA aW aC bt ba fY bC gF lx wD yY yZ xI wR xH dt.c
theorem HJ:BS prog (n+3) 46 [vi a,vi b] [vi a2,vi b2]=YH (YL ((⟨a,b⟩:av)=(⟨a2,b2⟩:av))):=by
 simp only[BS,Tryz.underlying3,Tryz.underlying46,JP,Program.fieldsOf,go_sem];simp[JP,tq3]
 try rfl
@[go_sem] theorem ZdE:uP prog .eql 46 [vi a,vi b] [vi a2,vi b2] KR=KR (vb (YL ((⟨a,b⟩:av)=(⟨a2,b2⟩:av)))):=by unfold uP;rw[show(10000:Nat)=9997+3 from rfl,HJ,Tryz.underlying46];simp only[JP,true_and]
@[go_sem] theorem Zev:uP prog .neq 46 [vi a,vi b] [vi a2,vi b2] KR=KR (vb (!decide ((⟨a,b⟩:av)=(⟨a2,b2⟩:av)))):=by unfold uP;rw[show(10000:Nat)=9997+3 from rfl,HJ,Tryz.underlying46];simp only[JP,true_and]
theorem zR:BS prog (n+3) 147 [vi a,vi b,vi c,vi d] [vi a2,vi b2,vi c2,vi d2]=YH (YL ((⟨a,⟨b,c⟩,d⟩:aq)=(⟨a2,⟨b2,c2⟩,d2⟩:aq))):=by
 simp only[BS,Tryz.underlying3,Tryz.underlying147,Nq,Tryz.underlying46,JP,Program.fieldsOf,go_sem];simp[Nq,JP,tq3]
 try rfl
@[go_sem] theorem ZaY:uP prog .eql 147 [vi a,vi b,vi c,vi d] [vi a2,vi b2,vi c2,vi d2] KR=KR (vb (YL ((⟨a,⟨b,c⟩,d⟩:aq)=(⟨a2,⟨b2,c2⟩,d2⟩:aq)))):=by unfold uP;rw[show(10000:Nat)=9997+3 from rfl,zR,Tryz.underlying147];simp only[Nq,true_and]
@[go_sem] theorem Zbb:uP prog .neq 147 [vi a,vi b,vi c,vi d] [vi a2,vi b2,vi c2,vi d2] KR=KR (vb (!decide ((⟨a,⟨b,c⟩,d⟩:aq)=(⟨a2,⟨b2,c2⟩,d2⟩:aq)))):=by unfold uP;rw[show(10000:Nat)=9997+3 from rfl,zR,Tryz.underlying147];simp only[Nq,true_and]
end Go.Proofs.YtdilaemengjipaaGreatDoor
namespace Go.Proofs.YtdilaemengjipaaGreatDoor
set_option maxRecDepth 10000
open Go.ChangeShapes Go.WideShapes Go.ChangeAt Go.RowKit Go.Deep
theorem decP_b8:Zbl prog 5 YQ (λx=>0<=x.v/\x.v<=255):=by
 intro H enc w base spare held fuel cs x h;obtain⟨n,rfl,_,hw⟩:=DataW.trod_int Tryz.underlying5 h;refine⟨⟨n⟩,wa rfl (.v _ rfl),?_⟩;simp[Lit.wf,IntKind.min,IntKind.max,IntKind.signed,IntKind.bits]at hw
 exact⟨by show 0<=n;omega,by show n<=255;omega⟩
theorem cells_b8:prog.cellsOf 5=1:=by kernel_rfl
end Go.Proofs.YtdilaemengjipaaGreatDoor
namespace Go.Proofs.YtdilaemengjipaaGreatDoor
set_option maxRecDepth 10000
open Go.RowKit
variable {KA:PV->Mem->Prop}{KR:PV->Prop}{P:Program}{Q:Exit->List PV->Mem->Prop}{T':TK}{a a2 b b2 c c2 e e2:Int}{args cs ds ps t zc:List PV}{d d2 s:ByteArray}{draw io:Bool}{es:List (List PV)}{fn:Func}{i j k k' l n n0 wd ν:Nat}{m m' m0 m1:Mem}{ops:Array Oper}{p:Prop}{rs:List (Option Nat)}{α β γ ο:Type}{ρ:Nat->Option Nat}{σ:Nat->Nat}{A B:Option α}{F:Unit->Option α}{G:ο->Option β}{J:Option (ο⊕α)}{K:α->Option β}{M:ο->Mem}{T:ο->List PV}{body:Int->Option (Int⊕ο)}{f:α->List PV}{r:β}{x:Option (Int⊕ο)}
theorem aR{n:Int}(h:-9223372036854775808<=n/\n<=9223372036854775807):aI n=n:=IntWalk.i64_in n h
theorem bE(hi:i<n)(hn:n<=1152921504606846976):aI ((i:Int)+1)=((i+1:Nat):Int):=by
 rw[aR X9];omega
theorem aS{xs:List α}:aB xs (i:Int)=xs[i]?:=by
 rfl
theorem od{b:Bool}(h:b=YJ):bW b=YH ():=by subst h;rfl
def tV{A α ο:Type}(F:Nat->A->α->Option (A⊕ο))(E:A->Option ο):Nat->List α->A->Option ο
 |_,[],a=>E a
 |i,x::xs,a=>(F i a x).bind (bk (λa'=>tV F E (i+1) xs a') YH)
theorem El{A α σ ο:Type}{xs:List α}{body:σ->Option (σ⊕ο)}{mk:A->Int->σ}{F:Nat->A->α->Option (A⊕ο)}{E:A->Option ο}
 (h1:∀a (i:Nat) x,xs[i]?=YH x->body (mk a i)=(F i a x).bind (bk (λa'=>YH (.inl (mk a' ((i+1:Nat):Int)))) (λr=>YH (.inr r))))
 (h2:∀a,body (mk a (xs.length:Int))=(E a).bind λr=>YH (.inr r)):
 ∀(ys:List α) (i:Nat) (N:Nat) (a:A),xs.drop i=ys->i<=xs.length->ys.length<N->aD body N (mk a i)=tV F E i ys a
 | [],i,0,a,_,_,hN=>X9
 | [],i,N+1,a,hd,hi,hN=>by
  have:i=xs.length:=by grind
  subst this;simp only[aD,tV,h2]
  cases E a<;>rfl
 |y::ys,i,0,a,_,_,hN=>X9
 |y::ys,i,N+1,a,hd,hi,hN=>by
  have hy:xs[i]?=YH y:=by
   have:=congrArg (λl=>l[0]?) hd
   grind
  have bU:i<xs.length:=(VT.1 hy).1;have wV:xs.drop (i+1)=ys:=by
   have:=congrArg (List.drop 1) hd
   simpa[List.drop_drop]using this
  simp only[aD,tV,h1 a i y hy]
  cases hF:F i a y with
  |none=>rfl
  |some o=>
   cases o with
   |inl a'=>
    show aD body N (mk a' ((i+1:Nat):Int))=tV F E (i+1) ys a';exact El h1 h2 ys (i+1) N a' wV bU Yg
   |inr r=>rfl
theorem qT{A α σ ο:Type}{xs:List α}{body:σ->Option (σ⊕ο)}{N:Nat}(mk:A->Int->σ)(F:Nat->A->α->Option (A⊕ο))(E:A->Option ο)
 (h1:∀a (i:Nat) x,xs[i]?=YH x->body (mk a i)=(F i a x).bind (bk (λa'=>YH (.inl (mk a' ((i+1:Nat):Int)))) (λr=>YH (.inr r))))
 (h2:∀a,body (mk a (xs.length:Int))=(E a).bind λr=>YH (.inr r)) (hN:xs.length<N) (a:A):aD body N (mk a 0)=tV F E 0 xs a:=
 El h1 h2 xs 0 N a rfl (Wu _) hN
theorem vf{σ ο:Type}{body:σ->Option (σ⊕ο)}(I:Nat->σ->Prop)(hI:∀k s,I k s->∃o,body s=YH o/\∀s',o=.inl s'->∃k',k'<k/\I k' s'):∀(N k:Nat) (s:σ),I k s->k<N->∃o,aD body N s=YH o
 |0,k,s,_,hN=>X9
 |N+1,k,s,h,hN=>by
  obtain⟨o,hb,hn⟩:=hI k s h;simp only[aD,hb]
  cases o with
  |inr r=>simp
  |inl s'=>
   obtain⟨k',hk,hi⟩:=hn s' rfl;exact vf I hI N k' s' hi X9
theorem yd(hn:n<NN)(h:∀i:Nat,i<n->∃o,body (i:Int)=YH o/\∀s',o=.inl s'->s'=((i+1:Nat):Int))(he:∃r,body (n:Int)=YH (.inr r)):∃o,aD body NN 0=YH o:=by
 refine vf (λk s=>∃i:Nat,i+k=n/\s=(i:Int)) ?_ NN n 0 ⟨0,X9,rfl⟩ hn
 rintro k s ⟨i,hi,rfl⟩
 rcases Nat.lt_or_ge i n with bU|yM
 ·obtain⟨o,ho,hs⟩:=h i bU
  exact⟨o,ho,λs' e=>⟨k-1,X9,i+1,X9,hs s' e⟩⟩
 grind
theorem Nj(e:x=YH (.inl ((i+1:Nat):Int))):∃o,x=YH o/\∀s',o=.inl s'->s'=((i+1:Nat):Int):=⟨_,e,by simp⟩
theorem LY{r:ο}(e:x=YH (.inr r)):∃o,x=YH o/\∀s',o=.inl s'->s'=((i+1:Nat):Int):=⟨_,e,by simp⟩
theorem og{c:Nat->Bool}{r e:ο}(h1:∀i:Nat,i<n->(∀j,j<i->c j=YJ)->body (i:Int)=YH (if c i=YJ then .inl ((i+1:Nat):Int)else .inr r))(h2:(∀j,j<n->c j=YJ)->body (n:Int)=YH (.inr e))(hN:n<NN):
 aD body NN 0=YH (if(Wg n).all c=YJ then e else r):=by
 have key:∀(k i N:Nat),i+k=n->k<N->(∀j,j<i->c j=YJ)->aD body N (i:Int)=YH (if(Wg n).all c=YJ then e else r):=by
  intro k
  induction k with
  |zero=>
   intro i N hi hk hj
   cases N with
   |zero=>omega
   |succ N=>
    have:i=n:=X9;subst this;simp only[aD,h2 hj]
    simp_all
  |succ k ih=>
   intro i N hi hk hj
   cases N with
   |zero=>omega
   |succ N=>
    simp only[aD,h1 i X9 hj]
    by_cases hc:c i=YJ
    ·rw[if_pos hc]
     exact ih (i+1) N X9 X9 (λj Cd=>by
      grind)
    grind
 grind
theorem Po(xs:List α)(p:α->Bool)(c:Nat->Bool)(h:∀i (hi:i<xs.length),c i=p xs[i]):(Wg xs.length).all c=xs.all p:=by
 rw[Bool.eq_iff_iff,V2,V2];constructor
 ·intro H x hx
  obtain⟨i,hi,rfl⟩:=List.getElem_of_mem hx
  simp_all
 simp_all
theorem tH{xs:List α}{p:α->Bool}{r e:ο}(h1:∀i (hi:i<xs.length),body (i:Int)=YH (if p xs[i]=YJ then .inr r else .inl ((i+1:Nat):Int)))(h2:body (xs.length:Int)=YH (.inr e))(hN:xs.length<NN):
 aD body NN 0=YH (if xs.any p=YJ then r else e):=by
 rw[og (n:=xs.length) (c:=λi=>(xs[i]?.map λx=>!p x).getD YJ) (r:=r) (e:=e) (λi hi _=>?_) (λ_=>h2) hN,Po xs (λx=>!p x) _ (λi hi=>by grind)]
 all_goals grind
def D9(t:List PV)(m:Mem):Option Unit:=YH ()
theorem ru.trans{t t1 t2:List PV}{m m1 m2:Mem}(h:ru n0 t m t1 m1)(k:ru n0 t1 m1 t2 m2):ru n0 t m t2 m2:=by
 induction h with
 |one h=>exact .two h k
 |two h h' ih=>exact .two h (ih k)
theorem VO{t T:List PV}{m M:Mem}
 (H:((D9 T M).bind F).bind K=YH r) (hc:ru n0 t m T M) (hk:(F ()).bind K=YH r->qI P n0 (.region i ops draw) Q T M):qI P n0 (.region i ops draw) Q t m:=by
 rcases hk H with h|⟨t1,m1,h1,h2⟩
 ·exact .inr ⟨T,M,hc,h⟩
 ·exact .inr ⟨t1,m1,hc.trans h1,h2⟩
def kR(wd:Nat)(fl:List Nat):Option Unit:=YH ()
theorem SH{fl:List Nat}{id:Nat}{ops:List Oper}
 (H:((kR wd fl).bind F).bind K=YH r) (Iu:YL (0<wd)=YJ) (h1:P.follows .mixedOrders=YJ) (hk:(F ()).bind K=YH r->lY P wd m.length fl ops.toArray (N2 ops (Q .normal)) 0 ops [] t m):qI P n0 (.region id ops.toArray YJ) Q t m:=Pm Iu h1 (hk H)
theorem NT[dy f]{xs:List α}{x:α}{T:TK}(hm:look m k=YH ⟨T,k',(xs.map f).set n cs⟩)(hc:f x=cs)(hd:dropped (dq rs) m' k):oK (dq rs) m m' (.ms k) (.sl ((xs.set n x).map f)):=by
 subst hc;refine Hs (f:=f) (xs:=xs.set n x) (T:=T) (k':=k') ?_ hd
 simp_all
theorem QL[dy f]{xs:List α}{k k' A B:Nat}{T:TK}(hm:look m k=YH ⟨T,k',xs.map f⟩)(hA:A=a.toNat)(hB:B=b.toNat)(hd:dropped (dq rs) m' k):oK (dq rs) m m' (.ss k A B) (.sl ((cH xs a b).map f)):=by
 subst hA hB;have:=oK.fss (ρ:=dq rs) (m:=m) (m':=m') k a.toNat b.toNat ⟨T,k',xs.map f⟩ (jb.1 hm) yy hd
 simpa only[xN,yI,cH]using this
def wC{α:Type}(xs:List α)(i:Int):Option α:=aB xs i
theorem rgH{xs:List α}{i:Int}{F:α->Option β}{K:β->Option γ}{r:γ}(H:((wC xs i).bind F).bind K=YH r):∃x,aB xs i=YH x/\(F x).bind K=YH r:=Bb H
theorem FM{xs:List α}{x:α}{i:Int}(h:aB xs i=YH x):((xs.map f).set i.toNat cs)[i.toNat]?=YH cs:=by
 rw[List.getElem?_set_self];have:=(VT.1 (mw h).2).1
 simp_all
theorem RL[dt α]{xs:List α}{x:α}{T:TypeId}{i:Int}{k:IntKind}(h:aB xs i=YH x)(hm:look m l=YH ⟨T',k',(xs.map dt.c).set n cs⟩)(hp:0<jV P T)(hk:k'=jV P T)(hK:KR (.be l i.toNat 0)):cL P m T (.ms l) (.v (.int k i)) KR:=by
 obtain⟨h1,h2,h3⟩:=FC h;obtain⟨e,hu,he⟩:=tx hp;rw[he]at hk
 simp only[cL,hu,mz,hm,Wo,WI]
 simp_all
attribute [go_sem] WI List.set_set
def Ds{α:Type}(x:α)(t:α->List PV)(m:α->Mem):Option α:=YH x
theorem SJ{ξ α β:Type}{x:ξ}{T:ξ->List PV}{M:ξ->Mem}{F:ξ->Option α}{K:α->Option β}{r:β}
 (H:((Ds x T M).bind F).bind K=YH r) (hc:ru n0 t m (T x) (M x)) (hk:∀z,(F z).bind K=YH r->qI P n0 (.region i ops draw) Q (T z) (M z)):qI P n0 (.region i ops draw) Q t m:=by
 rcases hk x H with h|⟨t1,m1,h1,h2⟩
 ·exact .inr ⟨T x,M x,hc,h⟩
 ·exact .inr ⟨t1,m1,hc.trans h1,h2⟩
def bh(ρ:List Nat):Option Unit:=YH ()
theorem Ub{R α β:Type}{ρ:List Nat}{A:Option R}[C:CT P A]{F:Unit->Option α}{G:R->Option α}{K:α->Option β}{r:β}{f:FuncId}
 (H:((bh ρ).bind F).bind K=YH r) (hF:F ()=A.bind G) (hf:C.f=f) (hio:io=YJ) (KG:ps=C.args.map (yw (sig ρ ν))) (hq:∀q∈C.args,sT YK q/\FT C.m0.length q=YJ) (hn:ρ.Nodup) (u9:o8 (sig ρ ν) m C.m0.length ρ C.m0)
 (hlen:∀y,C.m0.length<=(C.mem y).length/\(C.mem y).length-C.m0.length<=wd) (hm:∀y,∀mb,YH mb∈C.mem y->∀cs∈mb.es,∀p∈cs,eC YK p) (hg:∀y,qK YK (C.res y))
 (hk:∀y,A=YH y->(G y).bind K=YH r->KA (yx (sig ρ ν) (C.res y)) (jz (sig ρ ν) ν ((C.mem y).drop ρ.length) (oI (sig ρ ν) ρ (C.mem y) m))):pE P io wd ν f ps m KA:=by
 have H':(F ()).bind K=YH r:=H;rw[hF]at H'
 obtain⟨y,hy,H2⟩:=Bb H';subst hf;exact .inr ⟨ρ,C.m0,C.args,C.res y,C.mem y,.inl hio,C.ok hy,(hlen y).1,(hlen y).2,KG,hq,hn,u9,hm y,hg y,hk y hy H2⟩
theorem Qx{R α β:Type}{ρ:List Nat}{A:Option R}[C:CT P A]{F:Unit->Option α}{G:R->Option α}{K:α->Option β}{r:β}{f:FuncId}{KA:List Nat->PV->Mem->Prop}
 (H:((bh ρ).bind F).bind K=YH r) (hF:F ()=A.bind G) (hf:C.f=f) (KG:ps=C.args.map (yw (sig ρ ν))) (hq:∀q∈C.args,sT YK q/\FT C.m0.length q=YJ) (hn:ρ.Nodup) (u9:o8 (sig ρ ν) m C.m0.length ρ C.m0)
 (hlen:∀y,C.m0.length<=(C.mem y).length/\(C.mem y).length-C.m0.length<=wd) (hm:∀y,∀mb,YH mb∈C.mem y->∀cs∈mb.es,∀p∈cs,eC YK p) (hg:∀y,qK YK (C.res y))
 (hk:∀y,A=YH y->(G y).bind K=YH r->KA ρ (yx (sig ρ ν) (C.res y)) (jz (sig ρ ν) ν ((C.mem y).drop ρ.length) (oI (sig ρ ν) ρ (C.mem y) m))):pIO P wd ν f ps m KA:=by
 have H':(F ()).bind K=YH r:=H;rw[hF]at H'
 obtain⟨y,hy,H2⟩:=Bb H';subst hf;exact⟨ρ,C.m0,C.args,C.res y,C.mem y,C.ok hy,(hlen y).1,(hlen y).2,KG,hq,hn,u9,hm y,hg y,hk y hy H2⟩
def P6:Prop:=True
theorem ZeL{ρ:List Nat}(H:((bh ρ).bind F).bind K=YH r):P6:=trivial
theorem ZgA{f:FuncId}(h:P6)(hk:pE P io wd ν f ps m KA):pE P io wd ν f ps m KA:=hk
theorem ZeM{f:FuncId}{KA:List Nat->PV->Mem->Prop}(h:P6)(hk:pIO P wd ν f ps m KA):pIO P wd ν f ps m KA:=hk
theorem KL:o8 σ m n [] []:=trivial
theorem R7{p:PV}(h:r9 p=YJ):w9 n p=true:=by
 cases p with
 |fn f cs=>
  simp only[r9,V2]at h
  simp only[w9,V2];intro c hc;have:=h c hc
  cases c<;>simp_all[ur,AB]
 |_=>simp_all[r9,ur,w9,AB]
theorem KK[hf:dy f]{T:TK}{xs:List α}{ρ:List Nat}(hl:look m l=YH ⟨T,k,xs.map f⟩)(h:o8 σ m n ρ m0):o8 σ m n (l::ρ) (YH ⟨T,k,xs.map f⟩::m0):=by
 refine⟨?_,λcs sL p hp=>?_,h⟩
 ·rw[jb.1 hl]
  simp only[mV,EK]
 ·obtain⟨x,_,rfl⟩:=WE.1 sL
  exact⟨tC (hf.h x p hp),R7 (hf.h x p hp)⟩
theorem KM{T:TK}{cs qu:List PV}{ρ:List Nat}(hl:look m l=YH ⟨T,k,[qu]⟩)(hc:qu=cs.map (rW σ))(hg:∀p∈cs,eC YK p/\w9 n p=YJ)(h:o8 σ m n ρ m0):o8 σ m n (l::ρ) (YH ⟨T,k,[cs]⟩::m0):=by
 subst hc;refine⟨jb.1 hl,λds hds p hp=>?_,h⟩
 simp_all
@[irreducible] def jn{ο α:Type}(i j:Nat)(J:Option (ο⊕α))(T:ο->List PV)(M:ο->Mem):Option (ο⊕α):=J
def hdC:Code->Bool
 |.region _ _ _=>YJ
 |.loop _=>YJ
 |.seq a _=>hdC a
 |.block _ c=>hdC c
 |_=>YK
def idC:Code->Nat
 |.region i _ _=>i
 |.loop c=>idC c
 |.seq a _=>idC a
 |.block _ c=>idC c
 |_=>0
theorem CL{P:Program}{n0:Nat}:∀(c:Code),hdC c=YJ->∀{Q:Exit->List PV->Mem->Prop} {t T:List PV} {m M:Mem},ru n0 t m T M->qI P n0 c Q T M->qI P n0 c Q t m
 |.region i ops draw,_,Q,t,T,m,M,hc,h=>by
  rcases h with h|⟨t1,m1,h1,h2⟩
  ·exact .inr ⟨T,M,hc,h⟩
  ·exact .inr ⟨t1,m1,hc.trans h1,h2⟩
 |.loop c,_,Q,t,T,m,M,hc,h=>by
  obtain⟨I,n,t0,m0,h1,h2⟩:=h;exact⟨I,n,t0,m0,hc.trans h1,h2⟩
 |.seq a b,hd,Q,t,T,m,M,hc,h=>CL a hd hc h
 |.block i c,hd,Q,t,T,m,M,hc,h=>CL c hd hc h
theorem SK{a b:Code}{F:α->Option β}{K:β->Option γ}{r:γ}
 (H:((jn i j J T M).bind (bk G F)).bind K=YH r) (hd:hdC b=YJ) (hi:(idC a==i&&idC b==j)=YJ)
 (h1:∀K':List PV->Mem->Prop,(∀o t' m',(G o).bind K=YH r->ru n0 t' m' (T o) (M o)->K' t' m')->J.bind (bk (λo=>(G o).bind K) (λv=>(F v).bind K))=YH r->qI P n0 a (rE K' Q) t m)
 (h2:∀o,(G o).bind K=YH r->qI P n0 b Q (T o) (M o)):qI P n0 (.seq a b) Q t m:=by
 unfold jn at H
 refine h1 (λt m=>qI P n0 b Q t m) (λo t' m' h hc=>CL b hd hc (h2 o h)) ?_
 grind
theorem jnX{s:ο}{F:ο->Option β}{Kp:List PV->Mem->Prop}(H:(YH (Sum.inl s)).bind (bk F K)=YH r)(hL:∀o t' m',F o=YH r->ru n0 t' m' (T o) (M o)->Kp t' m')(hc:ru n0 t m (T s) (M s)):Kp t m:=hL s t m H hc
def Zc9:Prop:=True
theorem jnH{G:(ο⊕α)->Option β}{K:β->Option γ}{r:γ}(H:((jn i j J T M).bind G).bind K=YH r):Zc9:=trivial
theorem jnS{a b:Code}(h:Zc9)(hk:qI P n0 (.seq a b) Q t m):qI P n0 (.seq a b) Q t m:=hk
theorem JO{K K2:List PV->Mem->Prop}:rE K (rE K2 Q)=rE K Q:=by
 funext e t m
 cases e<;>rfl
theorem Ph{a b c:Code}(h:qI P n0 (.seq (.seq a b) c) Q t m):qI P n0 (.seq a (.seq b c)) Q t m:=by
 have e:qI P n0 (.seq (.seq a b) c) Q t m=qI P n0 a (rE (λt m=>qI P n0 b (rE (λt m=>qI P n0 c Q t m) Q) t m) (rE (λt m=>qI P n0 c Q t m) Q)) t m:=by rfl
 rw[e,JO]at h
 simp only[qI];exact h
theorem VP{a b c:Code}{F:α->Option β}{K:β->Option γ}{r:γ}
 (H:((jn i j J T M).bind (bk G F)).bind K=YH r) (hd:hdC c=YJ) (hi:(idC a==i&&idC c==j)=YJ)
 (h1:∀K':List PV->Mem->Prop,(∀o t' m',(G o).bind K=YH r->ru n0 t' m' (T o) (M o)->K' t' m')->J.bind (bk (λo=>(G o).bind K) (λv=>(F v).bind K))=YH r->qI P n0 (.seq a b) (rE K' Q) t m)
 (h2:∀o,(G o).bind K=YH r->qI P n0 c Q (T o) (M o)):qI P n0 (.seq a (.seq b c)) Q t m:=Ph (SK H hd hi h1 h2)
inductive uV:PV->PV->Prop
 |r (p:PV):uV p p
 |nil (c:Nat):uV (.v (.slice YI 0 c)) (.sl [])
 |un (p:PV):uV p .un
inductive Au:List PV->List PV->Prop
 |n:Au [] []
 |c {p q:PV} {ps qs:List PV} (h:uV p q) (k:Au ps qs):Au (p::ps) (q::qs)
inductive Bg:PV->PV->Prop
 |c {p q:PV} (h:uV p q):Bg p q
 |ag {cs ds:List PV} (h:Au cs ds):Bg (.ag cs) (.ag ds)
inductive As:List PV->List PV->Prop
 |n:As [] []
 |c {p q:PV} {ps qs:List PV} (h:Bg p q) (k:As ps qs):As (p::ps) (q::qs)
theorem uV.rep{w:World}{E:Env}{p q:PV}{x:Value}(h:uV p q)(hr:dE w E p x):dE w E q x:=by
 cases h with
 |r=>omega
 |nil c=>
  cases hr with
  |c h=>cases h with
   |v _ _=>exact .c (.nil YI c)
 |un=>exact .c (.un x)
theorem Au.len(h:Au cs ds):cs.length=ds.length:=by
 induction h with
 |n=>rfl
 |c _ _ ih=>grind
theorem Au.get(h:Au cs ds):∀(j:Nat) (q:PV),ds[j]?=YH q->∃p,cs[j]?=YH p/\uV p q:=by
 induction h with
 |n=>simp
 |c h k ih=>
  grind
theorem Bg.rep{w:World}{E:Env}{p q:PV}{x:Value}(h:Bg p q)(hr:dE w E p x):dE w E q x:=by
 cases h with
 |c h=>exact h.rep hr
 |ag h=>
  obtain⟨vs,rfl,hl,h1,hc⟩:=dE.qq hr;exact .ag _ vs (by rw[hl,h.len]) h1 λj p y hp hy=>by
   obtain⟨p',Ol,hs⟩:=h.get j p hp;exact hs.rep (hc j p' y Ol hy)
theorem As.len(h:As cs ds):cs.length=ds.length:=by
 induction h with
 |n=>rfl
 |c _ _ ih=>grind
theorem As.get(h:As cs ds):∀(j:Nat) (q:PV),ds[j]?=YH q->∃p,cs[j]?=YH p/\Bg p q:=by
 induction h with
 |n=>simp
 |c h k ih=>
  grind
theorem fL.ZeU{f:FuncId}{ps qs:List PV}{r:PV}(h:fL P f qs m0 r m1)(hs:As ps qs):fL P f ps m0 r m1:=by
 intro S β w vs ω hok hl ha;refine h S β w vs ω hok (by rw[hl,hs.len]) λi q hq=>?_
 obtain⟨p,hp,hv⟩:=hs.get i q hq;obtain⟨x,hx,hr⟩:=ha i p hp;exact⟨x,hx,hv.rep hr⟩
def U2:PV->Bool
 |.ms _=>YJ
 |p=>r9 p
def Za7:PV->Bool
 |.ag cs=>cs.all U2
 |.tu _=>YK
 |p=>U2 p
theorem H7{p:PV}(h:U2 p=YJ):eC YK p:=by
 cases p with
 |ms l=>simp[eC]
 |_=>exact tC h
theorem ZbO(h:cs.all U2=YJ):qK YK (.ag cs):=λc hc=>H7 (V2.1 h c hc)
theorem ZbP(h:ps.all Za7=YJ):qK YK (.tu ps):=by
 intro c hc;have:=V2.1 h c hc
 cases c with
 |ag cs=>exact λd hd=>H7 (V2.1 this d hd)
 |tu vs=>simp[Za7]at this
 |fn f cs=>exact tC (c:=.fn f cs) this
 |_=>simp[sT,eC]
theorem Ht{c:Nat}:oK ρ m m' (.v (.slice YI 0 c)) (.sl []):=.MQ c
theorem Jw{rs rr:List (Option Nat)}{T:TK}{mm:Mem}(hk:YL (0<k)=YJ)(h:nT rs m m' rr mm):nT rs m m' (YI::rr) (YH ⟨T,k,[]⟩::mm):=⟨⟨rfl,X3 hk⟩,h⟩
theorem Zcj:vn 0 i rs m=true:=rfl
theorem Zck{mb:MB}(h:vn n (i+1) rs m=YJ):vn (n+1) i (YH i::rs) (YH mb::m)=true:=by simp[vn,h]
theorem Zcl(h:vn n (i+1) rs m=YJ):vn (n+1) i (YI::rs) (YI::m)=true:=by simpa[vn]using h
theorem rA{b:Bool}{T:TK}(h:∀cs∈es,∀p∈cs,eC b p):∀mb,YH mb∈([YH ⟨T,k,es⟩]:Mem)->∀cs∈mb.es,∀p∈cs,eC b p:=by
 grind
theorem MC{b:Bool}(h2:∀mb,YH mb∈m->∀cs∈mb.es,∀p∈cs,eC b p):∀mb,YH mb∈((YI:Option MB)::m)->∀cs∈mb.es,∀p∈cs,eC b p:=by
 grind
theorem Zd7{T:TK}{b:Bool}:∀mb,YH mb∈([YH ⟨T,k,[]⟩]:Mem)->∀cs∈mb.es,∀p∈cs,eC b p:=rA Ye
theorem Zc8(h:(YI:Option α).bind K=YH r):False:=by cases h
theorem D6{c c2:ByteArray}:BS prog (n+3) 42 [vi a,vi b,vs c] [vi a2,vi b2,vs c2]=YH (YL ((⟨a,b,c⟩:cq)=(⟨a2,b2,c2⟩:cq))):=by
 simp only[BS,Tryz.underlying3,Tryz.underlying42,ZaH,Tryz.underlying9,Program.fieldsOf,go_sem];simp[ZaH,tq3,tq9];rw[baB];rfl
@[go_sem] theorem ZcY{c c2:ByteArray}:uP prog .eql 42 [vi a,vi b,vs c] [vi a2,vi b2,vs c2] KR=KR (vb (YL ((⟨a,b,c⟩:cq)=(⟨a2,b2,c2⟩:cq)))):=by unfold uP;rw[show(10000:Nat)=9997+3 from rfl,D6,Tryz.underlying42];simp only[ZaH,true_and]
@[go_sem] theorem ZcZ{c c2:ByteArray}:uP prog .neq 42 [vi a,vi b,vs c] [vi a2,vi b2,vs c2] KR=KR (vb (!decide ((⟨a,b,c⟩:cq)=(⟨a2,b2,c2⟩:cq)))):=by unfold uP;rw[show(10000:Nat)=9997+3 from rfl,D6,Tryz.underlying42];simp only[ZaH,true_and]
theorem Ms{a a2:ByteArray}{b b2:ByteArray}{d d2:Int}{f f2:Int}:BS prog (n+3) 144 [vs a,vs b,vi c,vi d,vi e,vi f] [vs a2,vs b2,vi c2,vi d2,vi e2,vi f2]=YH (YL ((⟨a,b,c,d,e,f⟩:bK)=(⟨a2,b2,c2,d2,e2,f2⟩:bK))):=by
 simp only[BS,Tryz.underlying3,Tryz.underlying144,Np,Tryz.underlying9,Program.fieldsOf,go_sem];simp[Np,tq3,tq9,baB];rfl
@[go_sem] theorem Zfa{a a2:ByteArray}{b b2:ByteArray}{d d2:Int}{f f2:Int}:uP prog .eql 144 [vs a,vs b,vi c,vi d,vi e,vi f] [vs a2,vs b2,vi c2,vi d2,vi e2,vi f2] KR=KR (vb (YL ((⟨a,b,c,d,e,f⟩:bK)=(⟨a2,b2,c2,d2,e2,f2⟩:bK)))):=by unfold uP;rw[show(10000:Nat)=9997+3 from rfl,Ms,Tryz.underlying144];simp only[Np,true_and]
@[go_sem] theorem Zfb{a a2:ByteArray}{b b2:ByteArray}{d d2:Int}{f f2:Int}:uP prog .neq 144 [vs a,vs b,vi c,vi d,vi e,vi f] [vs a2,vs b2,vi c2,vi d2,vi e2,vi f2] KR=KR (vb (!decide ((⟨a,b,c,d,e,f⟩:bK)=(⟨a2,b2,c2,d2,e2,f2⟩:bK)))):=by unfold uP;rw[show(10000:Nat)=9997+3 from rfl,Ms,Tryz.underlying144];simp only[Np,true_and]
theorem HH{f f2:Int}:BS prog (n+3) 151 [vi a,vi b,vi c,vs d,vi e,vi f] [vi a2,vi b2,vi c2,vs d2,vi e2,vi f2]=YH (YL ((⟨a,b,c,d,⟨e,f⟩⟩:bq)=(⟨a2,b2,c2,d2,⟨e2,f2⟩⟩:bq))):=by
 simp only[BS,Tryz.underlying3,Tryz.underlying151,Nr,Tryz.underlying46,JP,Tryz.underlying9,Program.fieldsOf,go_sem];simp[Nr,JP,tq3,tq9,baB];rfl
@[go_sem] theorem ZdD{f f2:Int}:uP prog .eql 151 [vi a,vi b,vi c,vs d,vi e,vi f] [vi a2,vi b2,vi c2,vs d2,vi e2,vi f2] KR=KR (vb (YL ((⟨a,b,c,d,⟨e,f⟩⟩:bq)=(⟨a2,b2,c2,d2,⟨e2,f2⟩⟩:bq)))):=by unfold uP;rw[show(10000:Nat)=9997+3 from rfl,HH,Tryz.underlying151];simp only[Nr,true_and]
@[go_sem] theorem Zeu{f f2:Int}:uP prog .neq 151 [vi a,vi b,vi c,vs d,vi e,vi f] [vi a2,vi b2,vi c2,vs d2,vi e2,vi f2] KR=KR (vb (!decide ((⟨a,b,c,d,⟨e,f⟩⟩:bq)=(⟨a2,b2,c2,d2,⟨e2,f2⟩⟩:bq)))):=by unfold uP;rw[show(10000:Nat)=9997+3 from rfl,HH,Tryz.underlying151];simp only[Nr,true_and]
set_option maxRecDepth 4000
theorem QK{f:FuncId}(h:ry ρ m m' cs ds):oK ρ m m' (.fn f cs) (.fn f ds):=by
 have key:∀(cs ds:List PV),ry ρ m m' cs ds->ds.length=cs.length/\∀(j:Nat) (p r:PV),cs[j]?=YH p->ds[j]?=YH r->oK ρ m m' p r:=by
  intro cs
  induction cs with
  |nil=>intro ds h;cases ds with
   |nil=>simp
   |cons d ds=>exact h.elim
  |cons c cs ih=>intro ds h;cases ds with
   |nil=>exact h.elim
   |cons d ds=>
    obtain⟨h1,h2⟩:=h
    grind
 obtain⟨a,b⟩:=key cs ds h;exact .fn f cs ds a b
theorem MF{xs:List α}{y:α}{c:α->List PV}(h:aB xs (n:Int)=YH y):(xs.map c)[n]?=YH (c y):=by
 unfold aB at h
 simp_all
theorem Zeq{a b c i y:Int}(h:aB [a,b,c] i=YH y):([[PV.v (YM YN a)],[PV.v (YM YN b)],[PV.v (YM YN c)]]:List (List PV))[i.toNat]?=YH [PV.v (YM YN y)]:=by
 have:([[PV.v (YM YN a)],[PV.v (YM YN b)],[PV.v (YM YN c)]]:List (List PV))=[a,b,c].map aE:=rfl;rw[this];exact zm h
theorem Zba{a b c y:ByteArray}{i:Int}(h:aB [a,b,c] i=YH y):([[PV.v (.string a)],[PV.v (.string b)],[PV.v (.string c)]]:List (List PV))[i.toNat]?=YH [PV.v (.string y)]:=by
 have:([[PV.v (.string a)],[PV.v (.string b)],[PV.v (.string c)]]:List (List PV))=[a,b,c].map jK:=rfl;rw[this];exact zm h
theorem Vz{f:FuncId}{K:PV->Mem->Prop}(h1:∀c∈cs,Ck c=YJ)(h2:tG P f)(h3:pE P io wd ν f (ps++cs) m K):Vy P io wd ν (.fn f cs) ps m K:=⟨h1,h2,h3⟩
def zM(x:List Int):List PV:=[.sl (x.map aE)]
instance :dt (List Int):=⟨zM⟩
instance :dy zM:=⟨λx q h=>by simp only[zM,Wf]at h;subst h;rfl⟩
attribute [go_sem] zM
theorem xf(h:p:=by(first|exact Rs|(repeat(first|exact FJ|exact AT|exact Zd7|(refine Oi FJ ?_) |(refine Oi AT ?_) |(refine Oi Zd7 ?_) |exact rA (by simp[eC,Ck]) |(refine MC ?_) |(refine Oi (rA (by simp[eC,Ck])) ?_))));(first|done|fail)):p:=h
theorem xs(h:p:=by((refine fL.ZeU (CT.ok hy) ?_);(repeat' (first|exact As.n|(refine As.c ?_ ?_) |exact Bg.c (uV.r _) |(refine Bg.ag ?_) |exact Au.n|(refine Au.c ?_ ?_) |exact uV.r _|exact uV.nil _|exact uV.un _)));(first|done|fail)):p:=h
theorem RJ{n i:Int}{F:α->Option β}{T:TypeId}{k:IntKind}(H:(cond (YL (i=n)) A B).bind F=YH r)(h1:A.bind F=YH r->cL P m T (.ms l) (.v (.int k n)) KR)(h2:B.bind F=YH r->cL P m T (.ms l) (.v (.int k i)) KR):cL P m T (.ms l) (.v (.int k i)) KR:=by
 grind
theorem QM{T:TK}(hm:look m k=YH ⟨T,k',es⟩)(hc:(es.all λcs=>cs.all r9)=YJ)(hd:dropped (dq rs) m' k):oK (dq rs) m m' (.ms k) (.sl es):=
 .fms k ⟨T,k',es⟩ (jb.1 hm) (λcs h q hq=>V2.1 (V2.1 hc cs h) q hq) hd
theorem UY{T:TypeId}{k:IntKind}{n:Int}(hm:look m l=YH ⟨T',k',es⟩)(hn:YL (0<=n/\n<es.length)=YJ)(hp:0<jV P T)(hk:k'=jV P T)(hK:KR (.be l n.toNat 0)):cL P m T (.ms l) (.v (.int k n)) KR:=by
 obtain⟨e,hu,he⟩:=tx hp;rw[he]at hk
 have hn:=X3 hn;simp only[cL,hu,mz,hm]
 simp_all
@[go_sem] theorem Zc0{s d:TypeId}{K:PV->Prop}:rI P m s d (.ms l) K=(match P.underlying s,P.underlying d with
 |some (.slice e),YH .string=>P.underlying e=YH (.int .u8)/\live m l λmb=>mb.k=1/\match s9 mb.es with
  |some ns=>K (.v (.string (strOfNums ns)))
  |none=>False
 |_,_=>False):=dT rfl
@[go_sem] theorem Zdn:s9 []=YH []:=dT rfl
@[go_sem] theorem Zdm{n:Int}:s9 ([.v (.int .u8 n)]::es)=(s9 es).map (n::·):=dT rfl
def Md(n:Nat)(hi:Int)(ny b:Nat):Bool:=YL (0<=hi/\hi<=(n:Int)/\0<n)&&bm (n+ny) b
theorem TZ[dt α]{xs ys:List α}{T:TypeId}{ν l e k n b A B:Nat}{hi:Int}{x:PV}(hok:Md xs.length hi ys.length b=YJ)(hu:P.underlying T=YH (.slice e))(hz:pz P e=YH zc)(hb:P.bytesOf e=b)(hc:P.cellsOf e=n)(hl:look m l=YH ⟨e,k,xs.map dt.c⟩)(wX:pH m x=YH (ys.map dt.c))
 (yQ:zc.length=n) (hp:YL (0<n)=YJ) (hf:∀x:α,(dt.c x).length=n) (hk:k=n) (hA:A=0) (hB:B=hi.toNat) (hK:KA (.ms ν) (oG (m.set l YI) ν ⟨e,k,(cH xs 0 hi++ys).map dt.c⟩)):gf P ν m T (.ss l A B) x KA:=by
 subst hb hc hA hB hk;unfold Md at hok
 rw[Bool.and_eq_true]at hok
 obtain⟨h1,h2⟩:=hok;have h1:=X3 h1;have h2:=X3 h2;have iq:¬xs.map dt.c=[]:=λh=>by simp_all
 have hle:hi.toNat<=xs.length:=X9;simp only[gf,hu,hz,wX,mz,hl,Wo];refine⟨yQ,X3 hp,λcs sL=>?_,trivial,rfl,trivial,⟨hle,iq⟩,X9,?_,?_⟩
 ·grind
 ·exact Wq (Nat.mul_le_mul_right _ X9) h2.2
 ·have e1:List.take hi.toNat (xs.map dt.c)++ys.map dt.c=(cH xs 0 hi++ys).map dt.c:=by
   unfold cH;simp
  simp_all
theorem TX[dt α]{xs ys:List α}{T:TypeId}{ν l e k n b:Nat}{x:PV}(hok:bm (xs.length+ys.length) b=YJ)(hy:ys.length=1)(hu:P.underlying T=YH (.slice e))(hz:pz P e=YH zc)(hb:P.bytesOf e=b)(hc:P.cellsOf e=n)(hl:look m l=YH ⟨e,k,xs.map dt.c⟩)(wX:pH m x=YH [cs])
 (tD:cs.length=n) (yQ:zc.length=n) (hp:YL (0<n)=YJ) (hk:k=n) (hK:KA (.ms ν) (oG (m.set l YI) ν ⟨e,k,xs.map dt.c++[cs]⟩)):gf P ν m T (.ms l) x KA:=by
 subst hk;subst hb;have tF:=X3 hok;rw[hy]at tF
 simp only[gf,hu,hz,wX,mz,hl,Wo,List.length_cons,List.length_nil,hc]
 simp_all
theorem Qy{f:FuncId}{r:PV}(hs:yB m ps (λqs=>fL P f qs [] r m1))(hw:m1.length<=wd)(hm:∀mb,YH mb∈m1->∀cs∈mb.es,∀p∈cs,eC YJ p\/mb.T.kd.isSome=YJ/\vh p=YJ)(hg:qK YJ r)(hK:KA (yx (sig [] ν) r) (jz (sig [] ν) ν m1 m)):pE P io wd ν f ps m KA:=
 .inl ⟨r,m1,hs,hw,hm,hg,hK⟩
class TM{α:Type}(f:α->List PV):Prop where
 h:∀x,∀q∈f x,IA q=YJ\/vh q=YJ
theorem tI[hf:qJ f]{xs:List α}:vh (.sl (xs.map f))=true:=by
 simp only[vh,V2];intro cs sL p hp;obtain⟨x,_,rfl⟩:=WE.1 sL;exact hf.h x p hp
instance :TM ba:=⟨λx q h=>by simp only[ba,V1,V0,or_false]at h;(repeat' (first|(rcases h with rfl|h;first|exact .inl rfl|exact .inr tI) |(subst h;first|exact .inl rfl|exact .inr tI)))⟩
instance :TM bJ:=⟨λx q h=>by simp only[bJ,V1,V0,or_false]at h;(repeat' (first|(rcases h with rfl|h;first|exact .inl rfl|exact .inr tI) |(subst h;first|exact .inl rfl|exact .inr tI)))⟩
instance :TM gF:=⟨λx q h=>by simp only[gF,V1,V0,or_false]at h;(repeat' (first|(rcases h with rfl|h;first|exact .inl rfl|exact .inr tI) |(subst h;first|exact .inl rfl|exact .inr tI)))⟩
theorem Zb3:∀mb,YH mb∈([]:Mem)->∀cs∈mb.es,∀p∈cs,eC YJ p\/mb.T.kd.isSome=YJ/\vh p=true:=by simp
theorem Ro[qJ f]{T:TK}{xs:List α}:∀mb,YH mb∈([YH ⟨T,k,xs.map f⟩]:Mem)->∀cs∈mb.es,∀p∈cs,eC YJ p\/mb.T.kd.isSome=YJ/\vh p=true:=
 λmb h cs hc p hp=>.inl (AT mb h cs hc p hp)
theorem Rn[hf:TM f]{t t':TypeId}{xs:List α}:∀mb,YH mb∈([YH ⟨⟨t,YH t'⟩,k,xs.map f⟩]:Mem)->∀cs∈mb.es,∀p∈cs,eC YJ p\/mb.T.kd.isSome=YJ/\vh p=true:=by
 intro mb h cs hc p hp;simp only[Wf,Option.some.injEq]at h
 subst h;obtain⟨x,_,rfl⟩:=WE.1 hc
 rcases hf.h x p hp with h|h
 ·exact .inl (B6 h)
 simp_all
theorem Zd3{x:Option MB}(h1:∀mb,YH mb∈([x]:Mem)->∀cs∈mb.es,∀p∈cs,eC YJ p\/mb.T.kd.isSome=YJ/\vh p=YJ)(h2:∀mb,YH mb∈m->∀cs∈mb.es,∀p∈cs,eC YJ p\/mb.T.kd.isSome=YJ/\vh p=YJ):∀mb,YH mb∈(x::m)->∀cs∈mb.es,∀p∈cs,eC YJ p\/mb.T.kd.isSome=YJ/\vh p=true:=by
 grind
theorem UN(h2:∀mb,YH mb∈m->∀cs∈mb.es,∀p∈cs,eC YJ p\/mb.T.kd.isSome=YJ/\vh p=YJ):∀mb,YH mb∈((YI:Option MB)::m)->∀cs∈mb.es,∀p∈cs,eC YJ p\/mb.T.kd.isSome=YJ/\vh p=true:=by
 grind
theorem kf(h:p:=by(repeat(first|exact Zb3|exact Ro|exact Rn|(refine Zd3 Ro ?_) |(refine Zd3 Rn ?_) |(refine UN ?_)));(first|done|fail)):p:=h
theorem ZeP{t t':TypeId}:(TK.mk t (YH t')).st [.ms l]=TK.mk t (YH t'):=dT rfl
attribute [go_sem] ZeP
theorem NQ[hf:dy f]{t t':TypeId}{k l j k2 n:Nat}{T2:TK}{es2:List (List PV)}{x:α}{xs:List α}(hm:FW 0 cs=YH (l,j))(h1:kd1 m)(hl:look m l=YH ⟨T2,k2,es2⟩)(ht:T2.t=t')(h:ry ρ m m' cs (f x)):
 u6 ρ m m' ⟨⟨t,YH t'⟩,k,(xs.map f).set n cs⟩ ⟨⟨t,YH t'⟩,k,(xs.set n x).map f⟩:=by
 by_cases hn:n<xs.length
 ·exact DX hn hm h1 hl ht h
 ·rw[X0 Yg,X0 X9]
  exact zb
theorem Uj{t t':TypeId}:u6 ρ m m' ⟨TK.of t,k,[]⟩ ⟨⟨t,YH t'⟩,k,([]:List α).map f⟩:=⟨⟨rfl,rfl,.inr trivial⟩,λ_ _ _ _ i ds j l hi=>by grind⟩
def ZeB:PV->Bool
 |.sl (_::_)=>YK
 |_=>YJ
theorem NP{t t':TypeId}{x:α}(hf:(f x).all ZeB=YJ)(h:ry ρ m m' cs (f x)):u6 ρ m m' ⟨TK.of t,k,V7 n cs⟩ ⟨⟨t,YH t'⟩,k,(V7 n x).map f⟩:=
 ⟨⟨rfl,rfl,.inr (BO h)⟩,λ_ _ T hT i ds j l hi hj iq=>by
  have mZ:(List.map f (V7 n x))[i]?=YH ds:=hi;rw[Wj]at mZ
  obtain⟨y,hy,rfl⟩:=Wb.1 mZ;obtain rfl:y=x:=by
   grind
  have h2:=V2.1 hf _ (List.mem_of_getElem? hj)
  cases l with
  |nil=>simp_all
  |cons a b=>cases h2⟩
inductive LL:List (Option Nat)->Mem->Prop
 |n:LL [] []
 |c {r:Option Nat} {x:Option MB} {l:List (Option Nat)} {m:Mem} (h:LL l m):LL (r::l) (x::m)
theorem ZfF{t t':List PV}{l:List (Option Nat)}(hk:LL l m')(hl:vn n0 0 l m'=YJ)(hT:Dr (dq l) m m' t t')(hM:nT l m m' l m')(hi:Ix l=YJ):ru n0 t m t' m':=ZbF hT hM hi hl
theorem xcs(h:p:=by(try simp only[U_s,U_z]);(with_reducible refine ZfG ?_);(with_reducible apply ZfF);(repeat' (first|(with_reducible exact Zcj) |(with_reducible refine Zck ?_) |(with_reducible refine Zcl ?_) |(with_reducible refine Um ?_) |(with_reducible refine ZbD ?_ ?_) |(with_reducible exact QO) |exact LL.n|(apply LL.c) |(with_reducible exact QP rfl) |exact QP rfl|(with_reducible exact QN) |(with_reducible refine ZbC ?_ ?_) |exact .c _ rfl|exact .un _|exact Ul rfl rfl|exact Uk rfl rfl|exact Ht|exact Ko|exact Kn rfl rfl|(refine Hs rfl ?_) |(refine QM rfl rfl ?_) |(refine NT rfl rfl ?_) |(refine QL rfl rfl rfl ?_) |(refine QJ rfl rfl ?_) |(with_reducible refine QK ?_) |(with_reducible refine Un ?_) |(with_reducible refine Uo ?_) |(with_reducible exact NO) |(with_reducible refine Ui ?_ ?_) |(with_reducible refine Uh ?_) |(with_reducible refine Zbx ?_) |(with_reducible refine ZbE ?_) |(with_reducible exact LK) |(refine Jv rfl ?_ ?_) |(refine Jw rfl ?_) |(refine LJ rfl ?_) |(with_reducible refine Ju ?_) |(with_reducible refine QG ?_) |(with_reducible exact QF) |(have _:=ky_;exact Uj) |(with_reducible refine QI ?_) |(with_reducible exact ZbA) |(with_reducible refine Zbz ?_ ?_) |(with_reducible exact zb) |(with_reducible refine Hr ?_) |exact zb|(refine Hr ?_) |(refine QH ?_) |(have _:=ky_;refine NP rfl ?_) |(refine NS ?_) |(refine NR rfl ?_) |(refine Km rfl (by exact k1) rfl rfl ?_) |(have _:=ky_;refine NQ rfl (by exact k1) rfl rfl ?_) |(refine DX ?_ rfl (by exact k1) rfl rfl ?_) |(simp only[aE,jK,BB,YQ,BL,rH,bJ,cG,cI,bn,bA,aW,aC,bt,ba,fY,bC,gF,lx,wD,yY,yZ,xI,wR,xH]) |(with_unfolding_all rfl)));(all_goals first|(exact BQ rfl) |exact none|exact[]);(first|done|fail)):p:=h
theorem xss(h:p:=by(refine fL.ZeU (CT.ok hy) ?_);(repeat' (first|exact As.n|(refine As.c ?_ ?_) |exact Bg.c (uV.r _) |exact Bg.c (uV.nil _) |(refine Bg.ag ?_) |exact Au.n|(refine Au.c ?_ ?_) |exact uV.r _|exact uV.nil _|exact uV.un _));(first|done|fail)):p:=h
theorem qgd(h:p:=by first|(simp only[go_sem];done) |(simp only[go_sem];decide)):p:=h
theorem A6(h:p:=by first|(simp only[go_sem];done) |(simp only[go_sem];rfl)):p:=h
theorem qgi(h:p:=by first|rfl|(simp only[go_sem];rfl)):p:=h
theorem qgs(h:p:=by first|rfl|exact Zay (by rfl) (by rfl) (by rfl)):p:=h
theorem qi1(h:p:=by first|rfl|(simp only[CT.args,List.map_cons,List.map_nil,yw,rW,uN,Zbh,Zbg,Zbf];done)):p:=h
theorem qi2(h:p:=by simp[CT.args,CT.m0,sT,eC,FT,w9,AB,Ck]):p:=h
theorem qi3(h:p:=by first|exact List.nodup_nil|decide):p:=h
theorem qi4(h:p:=by(simp only[CT.m0]);(repeat' (first|exact KL|(refine KK (by rfl) ?_) |(refine KM (by rfl) (by rfl) (by simp[eC,w9,AB,Ck]) ?_)))):p:=h
theorem qi5(h:p:=by intro y_;simp[CT.mem,CT.m0]):p:=h
theorem qi6(h:p:=by intro y_;(simp only[CT.mem]);(repeat(first|exact Rs|exact FJ|exact AT|(refine Oi FJ ?_) |(refine Oi (rA (by simp[eC,Ck])) ?_) |exact rA (by simp[eC,Ck]) |(refine MC ?_)))):p:=h
theorem qi7(h:p:=by intro y_;(simp[CT.res,qK,sT,eC,Ck])):p:=h
theorem qsn(h:p:=by(simp only[yB,CZ,yC,CY,Er,R5,R4,Jt,xN,yI,List.forall_mem_nil,true_and,and_true,if_true]);(first|exact CT.ok hy|(simp only[all_nil,all_cons,r9,ur,true_and,and_true,if_true];exact CT.ok hy) |exact xss|(simp only[all_nil,all_cons,r9,ur,true_and,and_true,if_true];exact xss))):p:=h
theorem qgV(h:p:=by first|exact ZdI rfl|exact ZdJ rfl|exact ZbO rfl|exact ZbP rfl|exact(fun h=>(by cases h)) |(simp[CT.res,qK,sT,eC,Ck])):p:=h
theorem qgF(h:p:=by first|exact ZbN rfl|exact(fun _=>rfl) |(simp[CT.res,qK,sT,eC,IA])):p:=h
theorem JU(h:p:=by
 (simp only[List.length_cons,List.length_nil,Nat.reduceAdd,Nat.reduceSub,List.replicate_succ,List.replicate_zero,List.cons_append,List.nil_append,go_sem]);
 repeat' (first
  |((with_reducible refine RJ H ?_ ?_)<;>(clear H;intro H;(try(refine UY (by rfl) (by rfl) qgd qgi ?_;simp only[go_sem,Nat.reduceAdd,Nat.reduceSub,Nat.reduceMul,Nat.reduceLT,Nat.reduceLeDiff,Nat.reduceEqDiff,if_true,eq_self,Int.reduceToNat]))))
  |((with_reducible refine Vz ?_ ?_ ?_);(focus (simp[Ck]));(focus (simp only[go_sem]));(simp only[List.cons_append,List.nil_append]))
  |((with_reducible refine ZeM (ZeL H) ?_);(refine Qx H rfl rfl ?_ ?_ ?_ ?_ ?_ ?_ ?_ ?_);(focus exact qi1);(focus exact qi2);(focus exact qi3);(focus exact qi4);(focus exact qi5);(focus exact qi6);(focus exact qi7);(clear H;intro y_ hy H;simp only[CT.res,CT.mem,oI,List.drop_succ_cons,List.drop_zero,Option.map_none,go_sem,Nat.reduceAdd,Nat.reduceSub,Nat.reduceMul,Nat.reduceLT,Nat.reduceLeDiff,Nat.reduceEqDiff,if_true,eq_self]))
  |((with_reducible refine jnS (jnH H) ?_);(first|((refine VP H ?_ ?_ (fun K_ hL H=>?_) (fun o_ H=>?_));(focus (decide +kernel));(focus (decide +kernel))) |((refine SK H ?_ ?_ (fun K_ hL H=>?_) (fun o_ H=>?_));(focus (decide +kernel));(focus (decide +kernel)))))
  |((with_reducible refine ZgA (ZeL H) ?_);(refine Ub H rfl rfl rfl ?_ ?_ ?_ ?_ ?_ ?_ ?_ ?_);(focus exact qi1);(focus exact qi2);(focus exact qi3);(focus exact qi4);(focus exact qi5);(focus exact qi6);(focus exact qi7);(clear H;intro y_ hy H;simp only[CT.res,CT.mem,oI,List.drop_succ_cons,List.drop_zero,Option.map_none,go_sem,Nat.reduceAdd,Nat.reduceSub,Nat.reduceMul,Nat.reduceLT,Nat.reduceLeDiff,Nat.reduceEqDiff,if_true,eq_self]))
  |((with_reducible refine SJ H ?_ ?_);(focus exact xcs);(clear H;intro z_ H))
  |((with_reducible refine VO H ?_ ?_);(focus exact xcs);(clear H;intro H))
  |((with_reducible refine VR ?_);intro K_ hK)
  |(with_reducible refine Pj ?_)
  |((first|((with_reducible refine SH H rfl (by kernel_rfl) ?_);(clear H;intro H)) |(with_reducible refine LB ?_) |((with_reducible refine ZdK ?_);(refine HZ (fun hg=>Zc6 H hg ?_) (fun hg=>Zc7 H hg ?_))<;>(clear H;intro H)) |((with_reducible refine Zgl ?_);replace H:=Bb H;obtain⟨y_,hy,H⟩:=H;(with_reducible apply Zce hy);(focus exact qgd);(focus exact qgi)) |((with_reducible refine Zgk ?_);replace H:=Bb H;obtain⟨y_,hy,H⟩:=H;(first|refine UZ hy (by rfl) qgd qgi ?_|refine RL hy (by rfl) qgd qgi ?_)) |((with_reducible refine Zgj ?_);replace H:=Bb H;obtain⟨y_,hy,H⟩:=H;(with_reducible apply U0 hy);(focus (simp only[go_sem]))) |((with_reducible refine ZgF ?_);replace H:=TL H;obtain⟨hc,H⟩:=H;(first|((with_reducible apply Td hc);(focus rfl);(focus rfl);(focus exact qgd);(focus (first|rfl|(intro x_;rfl)))) |refine PD hc (by rfl) (by rfl) (by rfl) qgd qgi ?_|((with_reducible apply PE hc);(focus rfl);(focus rfl);(focus (simp only[go_sem]))))) |((with_reducible refine Zfm ?_);replace H:=TL H;obtain⟨hc,H⟩:=H;(first|refine TW hc A6 A6 A6 A6 (by rfl) qgs rfl rfl (by intro x_;rfl) rfl ?_|refine TY hc A6 A6 A6 A6 qgs rfl rfl (by intro x_;rfl) ?_|refine TZ hc A6 A6 A6 A6 (by rfl) qgs rfl rfl (by intro x_;rfl) rfl rfl rfl ?_|refine TV hc rfl A6 A6 A6 A6 (by rfl) (by rfl) (by rfl) (by rfl) rfl rfl (by rfl) ?_|refine TX hc rfl A6 A6 A6 A6 (by rfl) (by rfl) (by rfl) rfl rfl rfl ?_)) |((with_reducible refine mkS ?_);replace H:=TL H;obtain⟨hc,H⟩:=H;refine Zcm hc A6 A6 A6 A6 rfl rfl ?_) |((with_reducible refine Zgt ?_);(first|(with_reducible refine F3 (by decide) ?_) |(replace H:=TL H;obtain⟨hc,H⟩:=H;(first|refine F3 hc ?_|refine F3 (of_decide_eq_true hc) ?_|refine F3 ⟨rfl,of_decide_eq_true hc⟩ ?_)))) |(with_reducible refine SG (by kernel_rfl) ?_))<;>simp only[go_sem,Nat.reduceAdd,Nat.reduceSub,Nat.reduceMul,Nat.reduceLT,Nat.reduceLeDiff,Nat.reduceEqDiff,if_true,eq_self])
  |((with_reducible refine SL ?_);(try simp only[rY,qY]))
  |((with_reducible refine SI ?_);(simp only[Db,zL,rY,qY,if_true,if_false,eq_self,Nat.reduceEqDiff,Nat.one_ne_zero,Nat.zero_ne_one]);(try simp only[Zdk,bsr,bsl]at H))
  |((with_reducible refine VQ ?_);(try simp only[EY,By]))
  |((first|with_reducible refine hQ _ _ ?_|with_reducible refine Ia _ _ ?_);(try simp only[Zdk,bsr,bsl]at H);replace H:=Zfk H;subst H;simp only[Fin,Pu,Vu,go_sem,Nat.reduceAdd,Nat.reduceSub,Nat.reduceMul,Nat.reduceLT,Nat.reduceLeDiff,Nat.reduceEqDiff,if_true,eq_self];exact xcs)
  |((with_reducible refine Pk ?_);simp only[Mu,Q8,Q7,HQ];(first|with_reducible refine QE ?_|with_reducible refine QD ?_|((refine Hp (fun hg=>Zc6 H hg ?_) (fun hg=>Zc7 H hg ?_))<;>(clear H;intro H))))
  |((with_reducible refine Zdo ?_);replace H:=Bb H;obtain⟨y_,hy,H⟩:=H;(first|((with_reducible apply NH);(focus (first|exact CT.ok hy|exact xss));(focus (simp[Ow,r9,ur]));(focus exact Nat.le_of_ble_eq_true rfl);(focus exact xf);(focus exact qgV)) |(have _:=ky_;(with_reducible apply Qy);(focus exact qsn);(focus exact Nat.le_of_ble_eq_true rfl);(focus exact kf);(focus exact qgF)) |((with_reducible apply NI);(focus exact qsn);(focus exact Nat.le_of_ble_eq_true rfl);(focus exact xf);(focus exact qgF)));simp only[CT.res,CT.mem,go_sem,Nat.reduceAdd,Nat.reduceSub,Nat.reduceMul,Nat.reduceLT,Nat.reduceLeDiff,Nat.reduceEqDiff,if_true,eq_self])
  |((with_reducible refine Zer ?_);(refine Pn (Hlp H) ?_ ?_);(focus (simp only[bo.T,bo.M,U_s,U_z];exact xcs));(clear H;intro n_ s_ H K_ hL;replace H:=Hrd H;simp only[bo.T,bo.M,U_s,U_z]))
  |((with_reducible refine Kw (by kernel_rfl) ?_);(try simp only[rY,qY]))
  |(with_reducible refine hK _ _ ?_;clear hK)
  |(clear hK;with_reducible refine hK _ _ ?_;clear hK)
  |((iterate 2 clear hK);with_reducible refine hK _ _ ?_;clear hK)
  |((iterate 3 clear hK);with_reducible refine hK _ _ ?_;clear hK)
  |((iterate 4 clear hK);with_reducible refine hK _ _ ?_;clear hK)
  |((iterate 5 clear hK);with_reducible refine hK _ _ ?_;clear hK)
  |((with_reducible refine And.intro ?_ ?_);omega)
  |(simp only[MU,MS,MT,Mf];simp only[go_sem,Nat.reduceAdd,Nat.reduceSub,Nat.reduceMul,Nat.reduceLT,Nat.reduceLeDiff,Nat.reduceEqDiff,if_true,eq_self])
  |(first|simp only[Zeq hy,Option.map_some,List.drop_zero,go_sem] |simp only[Zba hy,Option.map_some,List.drop_zero,go_sem] |simp only[MF hy,zm hy,FM hy,go_sem,Nat.reduceAdd,Nat.reduceSub,Nat.reduceMul,Nat.reduceLT,Nat.reduceLeDiff,Nat.reduceEqDiff,if_true,eq_self] |simp only[zm hy,FM hy,go_sem,Nat.reduceAdd,Nat.reduceSub,Nat.reduceMul,Nat.reduceLT,Nat.reduceLeDiff,Nat.reduceEqDiff,if_true,eq_self])
  |((with_reducible replace H:=Zfj H);(first|with_reducible refine hL _ _ _ H ?_|(clear hL;with_reducible refine hL _ _ _ H ?_));(try simp only[bo.T,bo.M,U_s,U_z]);exact xcs)
  |((with_reducible refine jnX H hL ?_);exact xcs)
  |(with_reducible exact(Zc8 H).elim)
  |((with_reducible replace H:=rgH H);obtain⟨y_,hy,H⟩:=H;(first|simp only[Zeq hy,Option.map_some,List.drop_zero,go_sem] |simp only[Zba hy,Option.map_some,List.drop_zero,go_sem] |simp only[MF hy,zm hy,FM hy,go_sem,Nat.reduceAdd,Nat.reduceSub,Nat.reduceMul,Nat.reduceLT,Nat.reduceLeDiff,Nat.reduceEqDiff,if_true,eq_self] |simp only[zm hy,FM hy,go_sem,Nat.reduceAdd,Nat.reduceSub,Nat.reduceMul,Nat.reduceLT,Nat.reduceLeDiff,Nat.reduceEqDiff,if_true,eq_self])))):p:=h
theorem cw{x:α}{f:FuncId}{c:Code}(e:A=B)(hf:P.funcs[f]?=some fn)(hn:fn.ntmps=n){rs:Array ResultVar}(hrs:fn.results=rs){r:PV}(hb:fn.body=some c:=by exact rfl)
 (h:∀Q:Exit->List PV->Mem->Prop,B.bind some=some x->(∀t m,Fin P m0.length rs r m1 t m->Q .ret t m)->(∀t m,Fin P m0.length rs r m1 t m->Q .normal t m)->qI P m0.length c Q (args++V7 (n-args.length) .ud) m0:=by intro Q H hQ Ia;exact JU) (H:A=some x):fL P f args m0 r m1:=ja hf hb hn hrs fun Q=>h Q (H0 (e▸H))
theorem ck{x:α}{f:FuncId}{c:Code}(e:A=B)(hf:P.funcs[f]?=some fn)(hn:fn.ntmps=n){rs:Array ResultVar}(hrs:fn.results=rs){r:PV}(hb:fn.body=some c:=by exact rfl)
 (h:∀Q:Exit->List PV->Mem->Prop,B.bind some=some x->(∀t m,Fin P m0.length rs r m1 t m->Q .ret t m)->(∀t m,Fin P m0.length rs r m1 t m->Q .normal t m)->qI P m0.length c Q (args++V7 (n-args.length) .ud) m0:=by intro Q H hQ Ia;have ky_:=trivial;exact JU) (H:A=some x):fL P f args m0 r m1:=ja hf hb hn hrs fun Q=>h Q (H0 (e▸H))
def di(s:ByteArray)(s0:Int):Option (Int⊕(Unit⊕Bool)):=
 cond (YL (s0<(s.size:Int)))
 ((uk s s0).bind λy1=>
 cond (YL (y1<65))
 (YH (.inr (.inr YK)))
 ((uk s s0).bind λy2=>
 cond (YL (90<y2))
 (YH (.inr (.inr YK)))
 (YH (.inl (aI (s0+1))))))
 (YH (.inr (.inl ())))
instance (s:ByteArray):bo (di s):=⟨λs0=>(vs s::.un::.un::vi s0::(U 19 [])),λs0=>[]⟩
def dM(s:ByteArray):Option Bool:=
 (aD (di s) NN 0).bind (bk (λo0=>
 YH (YL ((s.size:Int)=3))) (λr=>YH r))
instance (s:ByteArray):CT prog (dM s):=⟨91,[vs s],[],λr=>vb r,λr=>[],cw (dM.eq_1 ..) func91 ntmps91 results91⟩
def bc(x:Int)(least:Int)(iC:Int):Option Bool:=
 cond (YL (least<=x))
 (YH (YL (x<=iC)))
 (YH YK)
instance (x:Int)(least:Int)(iC:Int):CT prog (bc x least iC):=⟨176,[vi x,vi least,vi iC],[],λr=>vb r,λr=>[],cw (bc.eq_1 ..) func176 ntmps176 results176⟩
def js(s:ByteArray)(s0:Int):Option (Int⊕(Unit⊕Bool)):=
 cond (YL (s0<3))
 ((uk s s0).bind λy1=>
 (bc (IntKind.i64.wrap y1) 65 90).bind λy2=>
 cond (!y2)
 (YH (.inr (.inr YK)))
 (YH (.inl (aI (s0+1)))))
 (YH (.inr (.inl ())))
instance (s:ByteArray):bo (js s):=⟨λs0=>(vs s::.un::.un::vi s0::(U 13 [])),λs0=>[]⟩
def bT(s:ByteArray):Option Bool:=
 cond (!decide ((s.size:Int)=3))
 (YH YK)
 ((aD (js s) NN 0).bind (bk (λo0=>
 YH YJ) (λr=>YH r)))
instance (s:ByteArray):CT prog (bT s):=⟨218,[vs s],[],λr=>vb r,λr=>[],cw (bT.eq_1 ..) func218 ntmps218 results218⟩
def aZ(n:Int)(low:Int)(high:Int):Option Bool:=
 cond (YL (low<=n))
 (YH (YL (n<=high)))
 (YH YK)
instance (n:Int)(low:Int)(high:Int):CT prog (aZ n low high):=⟨72,[vi n,vi low,vi high],[],λr=>vb r,λr=>[],cw (aZ.eq_1 ..) func72 ntmps72 results72⟩
theorem tZ(n l h:Int):aZ n l h=YH (YL (l<=n)&&YL (n<=h)):=by
 unfold aZ;grind
theorem cE(n l h:Int):bc n l h=YH (YL (l<=n)&&YL (n<=h)):=by
 unfold bc;grind
theorem gE:@aZ=@bc:=by rfl
theorem FB{i c:Int}(h:uk s i=YH c):0<=c/\c<=255:=by
 unfold uk at h
 split at h
 ·cases h
  unfold yX
  cases hb:s[i.toNat]? with
  |none=>simp
  |some b=>
   have:=b.toNat_lt
   grind
 grind
theorem O3(hs:s.size=3):di s=js s:=by
 funext i
 unfold di js;rw[hs]
 cases hi:YL (i<3)with
 |false=>rfl
 |true=>
  simp only[show((3:Nat):Int)=3 from rfl,hi,X5]
  cases hg:uk s i with
  |none=>rfl
  |some y=>
   obtain⟨h0,h1⟩:=FB hg;simp only[VS,hg];rw[show IntKind.i64.wrap y=y from aR X9,cE]
   grind
theorem Ea(h:i<s.size):∃c,uk s (i:Int)=YH c:=by
 unfold uk;simp_all
theorem Jc(hs:s.size<=1152921504606846000):∀(k i N:Nat),i+k=s.size->k<N->∃o,aD (di s) N (i:Int)=YH o/\(o=.inl ()\/o=.inr YK):=by
 intro k
 induction k with
 |zero=>
  intro i N hi hk
  cases N with
  |zero=>omega
  |succ N=>exact⟨.inl (),by simp[aD,di,show ¬((i:Int)<s.size)by omega],.inl rfl⟩
 |succ k ih=>
  intro i N hi hk
  cases N with
  |zero=>omega
  |succ N=>
   obtain⟨c,hc⟩:=Ea (s:=s) (i:=i) X9;have hw:=bE (i:=i) (n:=s.size) X9 X9
   by_cases h2:c<65
   ·exact⟨.inr YK,by simp[aD,di,show(i:Int)<s.size by omega,hc,h2],.inr rfl⟩
   ·by_cases h3:90<c
    ·exact⟨.inr YK,by simp[aD,di,show(i:Int)<s.size by omega,hc,h2,h3],.inr rfl⟩
    ·obtain⟨o,ho,hoo⟩:=ih (i+1) N X9 X9
     refine⟨o,?_,hoo⟩;simp only[aD,di,X1 (show(i:Int)<s.size by omega),X5,hc,VS,X2 h2,X2 h3,X6,hw]
     omega
theorem l7(hs:s.size<=1152921504606846000):dM s=bT s/\∃b,bT s=YH b:=by
 obtain⟨o,ho,hoo⟩:=Jc hs s.size 0 NN X9 Yc;have yO:aD (di s) NN 0=YH o:=ho
 by_cases h3:s.size=3
 ·have e:bT s=(aD (di s) NN 0).bind (bk (λ_=>YH YJ) (λr=>YH r)):=by
   unfold bT;rw[O3 h3,h3];rfl
  have e2:dM s=(aD (di s) NN 0).bind (bk (λ_=>YH (YL ((s.size:Int)=3))) (λr=>YH r)):=rfl
  rw[e,e2,yO,h3]
  grind
 ·have e:bT s=YH false:=by unfold bT;grind
  have e2:dM s=YH false:=by
   unfold dM;rw[yO]
   rcases hoo with rfl|rfl
   ·show YH _=YH _;rw[X2 X9]
   rfl
  simp_all
def rq:Nat:=1152921504606846000
end Go.Proofs.YtdilaemengjipaaGreatDoor
namespace Go.Proofs
open Go.Proofs.YtdilaemengjipaaGreatDoor(Yb)
open Go.Shelf
def Tryz.Af:WS:=⟨λ|169=>58|n=>n,λ|70=>106|9=>9|0=>0|72=>108|37=>22|127=>174|3=>3|5=>5|n=>n,λ|n=>n⟩
theorem Tryz.Vd:Go.Proofs.Lays.n169 prog Tryz.Af:={
 mixed:=by kernel_rfl
 f169:=func58.trans (congrArg YH Yb)
 t0:=Tryz.underlying0
 a0:=Tryz.isAgg0
 z0:=Tryz.sizeOf0
 v0:=Tryz.zeroValue0
 t3:=Tryz.underlying3
 a3:=Tryz.isAgg3
 z3:=Tryz.sizeOf3
 v3:=Tryz.zeroValue3
 t9:=Tryz.underlying9
 a9:=Tryz.isAgg9
 z9:=Tryz.sizeOf9
 v9:=Tryz.zeroValue9
 t37:=Tryz.underlying22
 a37:=Tryz.isAgg22
 z37:=Tryz.sizeOf22
 v37:=Tryz.zeroValue22
 t70:=Tryz.underlying106
 a70:=Tryz.isAgg106
 z70:=Tryz.sizeOf106
 v70:=Tryz.zeroValue106
 t72:=Tryz.underlying108
 a72:=Tryz.isAgg108
 z72:=Tryz.sizeOf108
 v72:=Tryz.zeroValue108
 t127:=Tryz.underlying174
 a127:=Tryz.isAgg174
 z127:=Tryz.sizeOf174
 v127:=Tryz.zeroValue174}
theorem Tryz.lu:Builder.Extra prog Tryz.Af:={
 sizeBuilder:=by kernel_rfl
 liesBuilder:=by kernel_rfl
 t5:=Tryz.underlying5
 a5:=Tryz.isAgg5
 z5:=Tryz.sizeOf5
 v5:=Tryz.zeroValue5
 infoByte:=by kernel_rfl
 cellsByte:=by kernel_rfl
 sizeByte:=by kernel_rfl
 neB5:=by decide}
open Go.RowKit in
theorem Tryz.Builder_String_any(B b:Nat)(l:List UInt8)(w:World)(h:Lib.IsBuilder 108 5 B b (Lib.byteCells l) w)(hBw:B<=w.heap.size):
 Calls prog 58 #[.pointer (YH ⟨b,0,YI⟩)] w λe w'=>e=.returned (.string ⟨l.toArray⟩)/\Below B w w':=Any.Builder_String_any Tryz.Vd Tryz.lu B b l w h hBw
def Tryz.IE:WS:=⟨λ|125=>212|128=>275|129=>276|n=>n,λ|46=>222|3=>3|51=>295|53=>282|4=>4|5=>5|9=>9|n=>n,λ|n=>n⟩
theorem Tryz.Vc:Go.Proofs.Lays.n125 prog Tryz.IE:={
 mixed:=by kernel_rfl
 f125:=func212.trans (congrArg YH Yb)
 f128:=func275.trans (congrArg YH Yb)
 f129:=func276.trans (congrArg YH Yb)
 t3:=Tryz.underlying3
 a3:=Tryz.isAgg3
 z3:=Tryz.sizeOf3
 v3:=Tryz.zeroValue3
 t4:=Tryz.underlying4
 a4:=Tryz.isAgg4
 z4:=Tryz.sizeOf4
 v4:=Tryz.zeroValue4
 t5:=Tryz.underlying5
 a5:=Tryz.isAgg5
 z5:=Tryz.sizeOf5
 v5:=Tryz.zeroValue5
 t9:=Tryz.underlying9
 a9:=Tryz.isAgg9
 z9:=Tryz.sizeOf9
 v9:=Tryz.zeroValue9
 t46:=Tryz.underlying222
 a46:=Tryz.isAgg222
 z46:=Tryz.sizeOf222
 v46:=Tryz.zeroValue222
 t51:=Tryz.underlying295
 a51:=Tryz.isAgg295
 z51:=Tryz.sizeOf295
 v51:=Tryz.zeroValue295
 t53:=Tryz.underlying282
 a53:=Tryz.isAgg282
 z53:=Tryz.sizeOf282
 v53:=Tryz.zeroValue282}
theorem Tryz.bits_Len(x:Int)(w:World)(h0:0<=x)(h1:x<=18446744073709551615):
 Calls prog 212 #[.int .u64 x] w λe w'=>e=.returned (YM YN (Lib.bitLen x.toNat))/\w'=w:=Any.bits_Len Tryz.Vc x w h0 h1
def Tryz.FR:WS:=⟨λ|171=>98|243=>164|246=>210|283=>262|284=>263|285=>264|286=>265|129=>276|317=>336|318=>337|319=>338|320=>339|337=>373|338=>374|n=>n,λ|3=>3|9=>9|2=>2|4=>4|171=>281|0=>0|53=>282|37=>22|5=>5|173=>285|212=>329|51=>295|20=>20|213=>330|46=>222|232=>377|233=>378|n=>n,λ|17=>1|18=>6|19=>7|n=>n⟩
theorem Tryz.RY:Go.Proofs.LaysM.n171 prog Tryz.FR:={
 mixed:=by kernel_rfl
 f129:=func276.trans (congrArg YH Yb)
 f171:=func98.trans (congrArg YH Yb)
 f243:=func164.trans (congrArg YH Yb)
 f246:=func210.trans (congrArg YH Yb)
 f283:=func262.trans (congrArg YH Yb)
 f284:=func263.trans (congrArg YH Yb)
 f285:=func264.trans (congrArg YH Yb)
 f286:=func265.trans (congrArg YH Yb)
 f317:=func336.trans (congrArg YH Yb)
 f318:=func337.trans (congrArg YH Yb)
 f319:=func338.trans (congrArg YH Yb)
 f320:=func339.trans (congrArg YH Yb)
 f337:=func373.trans (congrArg YH Yb)
 f338:=func374.trans (congrArg YH Yb)
 t0:=Tryz.underlying0
 a0:=Tryz.isAgg0
 z0:=Tryz.sizeOf0
 v0:=Tryz.zeroValue0
 t2:=Tryz.underlying2
 a2:=Tryz.isAgg2
 z2:=Tryz.sizeOf2
 v2:=Tryz.zeroValue2
 t3:=Tryz.underlying3
 a3:=Tryz.isAgg3
 z3:=Tryz.sizeOf3
 v3:=Tryz.zeroValue3
 t4:=Tryz.underlying4
 a4:=Tryz.isAgg4
 z4:=Tryz.sizeOf4
 v4:=Tryz.zeroValue4
 t5:=Tryz.underlying5
 a5:=Tryz.isAgg5
 z5:=Tryz.sizeOf5
 v5:=Tryz.zeroValue5
 t9:=Tryz.underlying9
 a9:=Tryz.isAgg9
 z9:=Tryz.sizeOf9
 v9:=Tryz.zeroValue9
 t20:=Tryz.underlying20
 a20:=Tryz.isAgg20
 z20:=Tryz.sizeOf20
 v20:=Tryz.zeroValue20
 t37:=Tryz.underlying22
 a37:=Tryz.isAgg22
 z37:=Tryz.sizeOf22
 v37:=Tryz.zeroValue22
 t46:=Tryz.underlying222
 a46:=Tryz.isAgg222
 z46:=Tryz.sizeOf222
 v46:=Tryz.zeroValue222
 t51:=Tryz.underlying295
 a51:=Tryz.isAgg295
 z51:=Tryz.sizeOf295
 v51:=Tryz.zeroValue295
 t53:=Tryz.underlying282
 a53:=Tryz.isAgg282
 z53:=Tryz.sizeOf282
 v53:=Tryz.zeroValue282
 t171:=Tryz.underlying281
 a171:=Tryz.isAgg281
 z171:=Tryz.sizeOf281
 v171:=Tryz.zeroValue281
 t173:=Tryz.underlying285
 a173:=Tryz.isAgg285
 z173:=Tryz.sizeOf285
 v173:=Tryz.zeroValue285
 t212:=Tryz.underlying329
 a212:=Tryz.isAgg329
 z212:=Tryz.sizeOf329
 v212:=Tryz.zeroValue329
 t213:=Tryz.underlying330
 a213:=Tryz.isAgg330
 z213:=Tryz.sizeOf330
 t232:=Tryz.underlying377
 a232:=Tryz.isAgg377
 z232:=Tryz.sizeOf377
 v232:=Tryz.zeroValue377
 t233:=Tryz.underlying378
 a233:=Tryz.isAgg378
 z233:=Tryz.sizeOf378
 v233:=Tryz.zeroValue378
 g17:=by kernel_rfl
 g18:=by kernel_rfl
 g19:=by kernel_rfl
 i0:=by kernel_rfl
 i2:=by kernel_rfl
 i3:=by kernel_rfl
 i4:=by kernel_rfl
 i5:=by kernel_rfl
 i9:=by kernel_rfl
 i20:=by kernel_rfl
 i37:=by kernel_rfl
 i46:=by kernel_rfl
 i51:=by kernel_rfl
 i53:=by kernel_rfl
 i171:=by kernel_rfl
 i173:=by kernel_rfl
 i212:=by kernel_rfl
 i232:=by kernel_rfl
 i233:=by kernel_rfl
 m17:=by kernel_rfl
 m18:=by kernel_rfl
 m19:=by kernel_rfl}
open Go.RowKit Go.Sort Go.Lib in
theorem Tryz.strconv_Itoa (n : Int) (h0 : -9223372036854775808 <= n) (h1 : n <= 9223372036854775807) (w : World) (Zgc : Lib.TabIs prog w "internal/strconv.uint64pow10" .u64 Lib.pow10Tab) :
 Calls prog 98 #[YM YN n] w λe w'=>e=.returned (.string ⟨(Lib.itoa n).toArray⟩)/\∃k os,w'=grow (w.drewN k) os:=Any.strconv_Itoa Tryz.RY n h0 h1 w Zgc
def Tryz.IF:WS:=⟨λ|171=>98|243=>164|246=>210|283=>262|284=>263|285=>264|286=>265|129=>276|317=>336|318=>337|319=>338|320=>339|337=>373|338=>374|n=>n,λ|3=>3|9=>9|2=>2|4=>4|171=>281|0=>0|53=>282|37=>22|5=>5|173=>285|212=>329|51=>295|20=>20|213=>330|46=>222|232=>377|233=>378|n=>n,λ|17=>1|18=>6|19=>7|n=>n⟩
theorem Tryz.Ve:Go.Proofs.Lays.n171 prog Tryz.IF:={
 mixed:=by kernel_rfl
 f129:=func276.trans (congrArg YH Yb)
 f171:=func98.trans (congrArg YH Yb)
 f243:=func164.trans (congrArg YH Yb)
 f246:=func210.trans (congrArg YH Yb)
 f283:=func262.trans (congrArg YH Yb)
 f284:=func263.trans (congrArg YH Yb)
 f285:=func264.trans (congrArg YH Yb)
 f286:=func265.trans (congrArg YH Yb)
 f317:=func336.trans (congrArg YH Yb)
 f318:=func337.trans (congrArg YH Yb)
 f319:=func338.trans (congrArg YH Yb)
 f320:=func339.trans (congrArg YH Yb)
 f337:=func373.trans (congrArg YH Yb)
 f338:=func374.trans (congrArg YH Yb)
 t0:=Tryz.underlying0
 a0:=Tryz.isAgg0
 z0:=Tryz.sizeOf0
 v0:=Tryz.zeroValue0
 t2:=Tryz.underlying2
 a2:=Tryz.isAgg2
 z2:=Tryz.sizeOf2
 v2:=Tryz.zeroValue2
 t3:=Tryz.underlying3
 a3:=Tryz.isAgg3
 z3:=Tryz.sizeOf3
 v3:=Tryz.zeroValue3
 t4:=Tryz.underlying4
 a4:=Tryz.isAgg4
 z4:=Tryz.sizeOf4
 v4:=Tryz.zeroValue4
 t5:=Tryz.underlying5
 a5:=Tryz.isAgg5
 z5:=Tryz.sizeOf5
 v5:=Tryz.zeroValue5
 t9:=Tryz.underlying9
 a9:=Tryz.isAgg9
 z9:=Tryz.sizeOf9
 v9:=Tryz.zeroValue9
 t20:=Tryz.underlying20
 a20:=Tryz.isAgg20
 z20:=Tryz.sizeOf20
 v20:=Tryz.zeroValue20
 t37:=Tryz.underlying22
 a37:=Tryz.isAgg22
 z37:=Tryz.sizeOf22
 v37:=Tryz.zeroValue22
 t46:=Tryz.underlying222
 a46:=Tryz.isAgg222
 z46:=Tryz.sizeOf222
 v46:=Tryz.zeroValue222
 t51:=Tryz.underlying295
 a51:=Tryz.isAgg295
 z51:=Tryz.sizeOf295
 v51:=Tryz.zeroValue295
 t53:=Tryz.underlying282
 a53:=Tryz.isAgg282
 z53:=Tryz.sizeOf282
 v53:=Tryz.zeroValue282
 t171:=Tryz.underlying281
 a171:=Tryz.isAgg281
 z171:=Tryz.sizeOf281
 v171:=Tryz.zeroValue281
 t173:=Tryz.underlying285
 a173:=Tryz.isAgg285
 z173:=Tryz.sizeOf285
 v173:=Tryz.zeroValue285
 t212:=Tryz.underlying329
 a212:=Tryz.isAgg329
 z212:=Tryz.sizeOf329
 v212:=Tryz.zeroValue329
 t213:=Tryz.underlying330
 a213:=Tryz.isAgg330
 z213:=Tryz.sizeOf330
 t232:=Tryz.underlying377
 a232:=Tryz.isAgg377
 z232:=Tryz.sizeOf377
 v232:=Tryz.zeroValue377
 t233:=Tryz.underlying378
 a233:=Tryz.isAgg378
 z233:=Tryz.sizeOf378
 v233:=Tryz.zeroValue378
 g17:=by kernel_rfl
 g18:=by kernel_rfl
 g19:=by kernel_rfl}
open Go.RowKit Go.Sort Go.Lib in
theorem Tryz.strconv_Itoa_small(i:Nat)(hi:i<100)(w:World):
 Calls prog 98 #[YM YN i] w λe w'=>e=.returned (.string ⟨(Lib.decDigits i).toArray⟩)/\w'=w:=Any.strconv_Itoa_small Tryz.Ve i hi w
def Tryz.IG:WS:=⟨λ|191=>100|189=>165|125=>212|257=>211|128=>275|129=>276|294=>266|295=>267|296=>268|297=>269|298=>270|299=>271|216=>272|300=>273|301=>274|328=>340|329=>341|330=>342|331=>343|332=>344|215=>345|343=>375|n=>n,λ|28=>25|0=>0|3=>3|46=>222|51=>295|53=>282|4=>4|183=>289|182=>288|131=>95|5=>5|9=>9|218=>332|222=>336|228=>363|229=>364|n=>n,λ|n=>n⟩
theorem Tryz.Vf:Go.Proofs.Lays.n191 prog Tryz.IG:={
 mixed:=by kernel_rfl
 f125:=func212.trans (congrArg YH Yb)
 f128:=func275.trans (congrArg YH Yb)
 f129:=func276.trans (congrArg YH Yb)
 f189:=func165.trans (congrArg YH Yb)
 f191:=func100.trans (congrArg YH Yb)
 f215:=func345.trans (congrArg YH Yb)
 f216:=func272.trans (congrArg YH Yb)
 f257:=func211.trans (congrArg YH Yb)
 f294:=func266.trans (congrArg YH Yb)
 f295:=func267.trans (congrArg YH Yb)
 f296:=func268.trans (congrArg YH Yb)
 f297:=func269.trans (congrArg YH Yb)
 f298:=func270.trans (congrArg YH Yb)
 f299:=func271.trans (congrArg YH Yb)
 f300:=func273.trans (congrArg YH Yb)
 f301:=func274.trans (congrArg YH Yb)
 f328:=func340.trans (congrArg YH Yb)
 f329:=func341.trans (congrArg YH Yb)
 f330:=func342.trans (congrArg YH Yb)
 f331:=func343.trans (congrArg YH Yb)
 f332:=func344.trans (congrArg YH Yb)
 f343:=func375.trans (congrArg YH Yb)
 t0:=Tryz.underlying0
 a0:=Tryz.isAgg0
 z0:=Tryz.sizeOf0
 v0:=Tryz.zeroValue0
 t3:=Tryz.underlying3
 a3:=Tryz.isAgg3
 z3:=Tryz.sizeOf3
 v3:=Tryz.zeroValue3
 t4:=Tryz.underlying4
 a4:=Tryz.isAgg4
 z4:=Tryz.sizeOf4
 v4:=Tryz.zeroValue4
 t5:=Tryz.underlying5
 a5:=Tryz.isAgg5
 z5:=Tryz.sizeOf5
 v5:=Tryz.zeroValue5
 t9:=Tryz.underlying9
 a9:=Tryz.isAgg9
 z9:=Tryz.sizeOf9
 v9:=Tryz.zeroValue9
 t28:=Tryz.underlying25
 a28:=Tryz.isAgg25
 z28:=Tryz.sizeOf25
 v28:=Tryz.zeroValue25
 t46:=Tryz.underlying222
 a46:=Tryz.isAgg222
 z46:=Tryz.sizeOf222
 v46:=Tryz.zeroValue222
 t51:=Tryz.underlying295
 a51:=Tryz.isAgg295
 z51:=Tryz.sizeOf295
 v51:=Tryz.zeroValue295
 t53:=Tryz.underlying282
 a53:=Tryz.isAgg282
 z53:=Tryz.sizeOf282
 v53:=Tryz.zeroValue282
 t131:=Tryz.underlying95
 a131:=Tryz.isAgg95
 z131:=Tryz.sizeOf95
 v131:=Tryz.zeroValue95
 t182:=Tryz.underlying288
 a182:=Tryz.isAgg288
 z182:=Tryz.sizeOf288
 v182:=Tryz.zeroValue288
 t183:=Tryz.underlying289
 a183:=Tryz.isAgg289
 z183:=Tryz.sizeOf289
 v183:=Tryz.zeroValue289
 t218:=Tryz.underlying332
 a218:=Tryz.isAgg332
 z218:=Tryz.sizeOf332
 v218:=Tryz.zeroValue332
 t222:=Tryz.underlying336
 a222:=Tryz.isAgg336
 z222:=Tryz.sizeOf336
 v222:=Tryz.zeroValue336
 t228:=Tryz.underlying363
 a228:=Tryz.isAgg363
 z228:=Tryz.sizeOf363
 v228:=Tryz.zeroValue363
 t229:=Tryz.underlying364
 a229:=Tryz.isAgg364
 z229:=Tryz.sizeOf364
 v229:=Tryz.zeroValue364}
open Go.Sort Go.RowKit in
theorem Tryz.sort_Ints(mv off cap:Nat)(zs:List Int)(w:World)(hH:Holds (Value.int .i64) w mv off zs.toArray)(wo:mv<w.heap.size)(wu:zs.length<4611686018427387904):
 Calls prog 100 #[.slice (YH ⟨mv,off,YI⟩) zs.length cap] w λe w'=>
  e=.returned (.tuple #[])/\∃n os,w'=grow (putRow (Value.int .i64) (Sort.ahead w n) mv off (zs.mergeSort λx y=>YL (x<=y)).toArray) os:=Any.sort_Ints Tryz.Vf mv off cap zs w hH wo wu
def Tryz.IH:WS:=⟨λ|192=>156|190=>206|125=>212|258=>256|128=>275|129=>276|302=>323|303=>324|304=>325|305=>326|306=>327|307=>328|308=>329|309=>330|310=>331|333=>368|329=>341|330=>342|334=>369|335=>370|336=>371|344=>389|n=>n,λ|31=>114|0=>0|9=>9|3=>3|46=>222|51=>295|53=>282|4=>4|183=>289|182=>288|131=>95|5=>5|218=>332|222=>336|228=>363|229=>364|n=>n,λ|n=>n⟩
theorem Tryz.Vg:Go.Proofs.Lays.n192 prog Tryz.IH:={
 mixed:=by kernel_rfl
 f125:=func212.trans (congrArg YH Yb)
 f128:=func275.trans (congrArg YH Yb)
 f129:=func276.trans (congrArg YH Yb)
 f190:=func206.trans (congrArg YH Yb)
 f192:=func156.trans (congrArg YH Yb)
 f258:=func256.trans (congrArg YH Yb)
 f302:=func323.trans (congrArg YH Yb)
 f303:=func324.trans (congrArg YH Yb)
 f304:=func325.trans (congrArg YH Yb)
 f305:=func326.trans (congrArg YH Yb)
 f306:=func327.trans (congrArg YH Yb)
 f307:=func328.trans (congrArg YH Yb)
 f308:=func329.trans (congrArg YH Yb)
 f309:=func330.trans (congrArg YH Yb)
 f310:=func331.trans (congrArg YH Yb)
 f329:=func341.trans (congrArg YH Yb)
 f330:=func342.trans (congrArg YH Yb)
 f333:=func368.trans (congrArg YH Yb)
 f334:=func369.trans (congrArg YH Yb)
 f335:=func370.trans (congrArg YH Yb)
 f336:=func371.trans (congrArg YH Yb)
 f344:=func389.trans (congrArg YH Yb)
 t0:=Tryz.underlying0
 a0:=Tryz.isAgg0
 z0:=Tryz.sizeOf0
 v0:=Tryz.zeroValue0
 t3:=Tryz.underlying3
 a3:=Tryz.isAgg3
 z3:=Tryz.sizeOf3
 v3:=Tryz.zeroValue3
 t4:=Tryz.underlying4
 a4:=Tryz.isAgg4
 z4:=Tryz.sizeOf4
 v4:=Tryz.zeroValue4
 t5:=Tryz.underlying5
 a5:=Tryz.isAgg5
 z5:=Tryz.sizeOf5
 v5:=Tryz.zeroValue5
 t9:=Tryz.underlying9
 a9:=Tryz.isAgg9
 z9:=Tryz.sizeOf9
 v9:=Tryz.zeroValue9
 t31:=Tryz.underlying114
 a31:=Tryz.isAgg114
 z31:=Tryz.sizeOf114
 v31:=Tryz.zeroValue114
 t46:=Tryz.underlying222
 a46:=Tryz.isAgg222
 z46:=Tryz.sizeOf222
 v46:=Tryz.zeroValue222
 t51:=Tryz.underlying295
 a51:=Tryz.isAgg295
 z51:=Tryz.sizeOf295
 v51:=Tryz.zeroValue295
 t53:=Tryz.underlying282
 a53:=Tryz.isAgg282
 z53:=Tryz.sizeOf282
 v53:=Tryz.zeroValue282
 t131:=Tryz.underlying95
 a131:=Tryz.isAgg95
 z131:=Tryz.sizeOf95
 v131:=Tryz.zeroValue95
 t182:=Tryz.underlying288
 a182:=Tryz.isAgg288
 z182:=Tryz.sizeOf288
 v182:=Tryz.zeroValue288
 t183:=Tryz.underlying289
 a183:=Tryz.isAgg289
 z183:=Tryz.sizeOf289
 v183:=Tryz.zeroValue289
 t218:=Tryz.underlying332
 a218:=Tryz.isAgg332
 z218:=Tryz.sizeOf332
 v218:=Tryz.zeroValue332
 t222:=Tryz.underlying336
 a222:=Tryz.isAgg336
 z222:=Tryz.sizeOf336
 v222:=Tryz.zeroValue336
 t228:=Tryz.underlying363
 a228:=Tryz.isAgg363
 z228:=Tryz.sizeOf363
 v228:=Tryz.zeroValue363
 t229:=Tryz.underlying364
 a229:=Tryz.isAgg364
 z229:=Tryz.sizeOf364
 v229:=Tryz.zeroValue364}
open Go.Sort Go.RowKit in
theorem Tryz.sort_Strings(mv off cap:Nat)(ss:List (List UInt8))(w:World)(hH:Holds encStr w mv off ss.toArray)(wo:mv<w.heap.size)(wu:ss.length<4611686018427387904):
 Calls prog 156 #[.slice (YH ⟨mv,off,YI⟩) ss.length cap] w λe w'=>
  e=.returned (.tuple #[])/\∃n os,w'=grow (putRow encStr (Sort.ahead w n) mv off (ss.mergeSort λx y=>YL (x<=y)).toArray) os:=Any.sort_Strings Tryz.Vg mv off cap ss w hH wo wu
def Tryz.vk:WS:=⟨λ|8=>200|13=>251|14=>252|16=>254|15=>253|29=>320|30=>321|42=>365|49=>388|n=>n,λ|20=>20|26=>238|36=>266|0=>0|38=>268|42=>272|3=>3|4=>4|47=>222|17=>17|33=>225|34=>264|89=>393|12=>12|56=>295|82=>387|5=>5|83=>388|84=>389|85=>174|86=>390|87=>391|n=>n,λ|n=>n⟩
theorem Tryz.FQ:Go.Proofs.LaysGt.n8 prog Tryz.vk:={
 mixed:=by kernel_rfl
 f8:=func200.trans (congrArg YH Yb)
 f13:=func251.trans (congrArg YH Yb)
 f14:=func252.trans (congrArg YH Yb)
 f15:=func253.trans (congrArg YH Yb)
 f16:=func254.trans (congrArg YH Yb)
 f29:=func320.trans (congrArg YH Yb)
 f30:=func321.trans (congrArg YH Yb)
 f42:=func365.trans (congrArg YH Yb)
 f49:=func388.trans (congrArg YH Yb)
 t0:=Tryz.underlying0
 a0:=Tryz.isAgg0
 z0:=Tryz.sizeOf0
 v0:=Tryz.zeroValue0
 i0:=by kernel_rfl
 t3:=Tryz.underlying3
 a3:=Tryz.isAgg3
 z3:=Tryz.sizeOf3
 v3:=Tryz.zeroValue3
 i3:=by kernel_rfl
 t4:=Tryz.underlying4
 a4:=Tryz.isAgg4
 z4:=Tryz.sizeOf4
 v4:=Tryz.zeroValue4
 i4:=by kernel_rfl
 t5:=Tryz.underlying5
 a5:=Tryz.isAgg5
 z5:=Tryz.sizeOf5
 v5:=Tryz.zeroValue5
 i5:=by kernel_rfl
 t12:=Tryz.underlying12
 a12:=Tryz.isAgg12
 z12:=Tryz.sizeOf12
 v12:=Tryz.zeroValue12
 i12:=by kernel_rfl
 t17:=Tryz.underlying17
 a17:=Tryz.isAgg17
 z17:=Tryz.sizeOf17
 v17:=Tryz.zeroValue17
 i17:=by kernel_rfl
 t20:=Tryz.underlying20
 a20:=Tryz.isAgg20
 z20:=Tryz.sizeOf20
 v20:=Tryz.zeroValue20
 i20:=by kernel_rfl
 t26:=Tryz.underlying238
 a26:=Tryz.isAgg238
 z26:=Tryz.sizeOf238
 v26:=Tryz.zeroValue238
 i26:=by kernel_rfl
 t33:=Tryz.underlying225
 a33:=Tryz.isAgg225
 z33:=Tryz.sizeOf225
 v33:=Tryz.zeroValue225
 i33:=by kernel_rfl
 t34:=Tryz.underlying264
 a34:=Tryz.isAgg264
 z34:=Tryz.sizeOf264
 v34:=Tryz.zeroValue264
 i34:=by kernel_rfl
 t36:=Tryz.underlying266
 a36:=Tryz.isAgg266
 z36:=Tryz.sizeOf266
 v36:=Tryz.zeroValue266
 i36:=by kernel_rfl
 t38:=Tryz.underlying268
 a38:=Tryz.isAgg268
 z38:=Tryz.sizeOf268
 v38:=Tryz.zeroValue268
 i38:=by kernel_rfl
 t42:=Tryz.underlying272
 a42:=Tryz.isAgg272
 z42:=Tryz.sizeOf272
 v42:=Tryz.zeroValue272
 i42:=by kernel_rfl
 t47:=Tryz.underlying222
 a47:=Tryz.isAgg222
 z47:=Tryz.sizeOf222
 v47:=Tryz.zeroValue222
 i47:=by kernel_rfl
 t56:=Tryz.underlying295
 a56:=Tryz.isAgg295
 z56:=Tryz.sizeOf295
 v56:=Tryz.zeroValue295
 i56:=by kernel_rfl
 t82:=Tryz.underlying387
 a82:=Tryz.isAgg387
 z82:=Tryz.sizeOf387
 v82:=Tryz.zeroValue387
 i82:=by kernel_rfl
 t83:=Tryz.underlying388
 a83:=Tryz.isAgg388
 z83:=Tryz.sizeOf388
 v83:=Tryz.zeroValue388
 i83:=by kernel_rfl
 t84:=Tryz.underlying389
 a84:=Tryz.isAgg389
 z84:=Tryz.sizeOf389
 v84:=Tryz.zeroValue389
 i84:=by kernel_rfl
 t85:=Tryz.underlying174
 a85:=Tryz.isAgg174
 z85:=Tryz.sizeOf174
 v85:=Tryz.zeroValue174
 i85:=by kernel_rfl
 t86:=Tryz.underlying390
 a86:=Tryz.isAgg390
 z86:=Tryz.sizeOf390
 v86:=Tryz.zeroValue390
 i86:=by kernel_rfl
 t87:=Tryz.underlying391
 a87:=Tryz.isAgg391
 z87:=Tryz.sizeOf391
 v87:=Tryz.zeroValue391
 i87:=by kernel_rfl
 t89:=Tryz.underlying393
 a89:=Tryz.isAgg393
 z89:=Tryz.sizeOf393
 v89:=Tryz.zeroValue393
 i89:=by kernel_rfl}
def Tryz.Ae:WS:=⟨λ|105=>207|212=>257|99=>258|165=>259|166=>57|170=>260|169=>58|263=>332|264=>333|206=>334|240=>116|241=>335|276=>185|277=>372|n=>n,λ|9=>9|3=>3|4=>4|20=>20|0=>0|46=>222|109=>276|5=>5|72=>108|76=>111|51=>295|146=>324|53=>282|148=>326|70=>106|37=>22|75=>110|127=>174|164=>225|80=>113|n=>n,λ|n=>n⟩
theorem Tryz.Vb:Go.Proofs.Lays.n105 prog Tryz.Ae:={
 mixed:=by kernel_rfl
 f99:=func258.trans (congrArg YH Yb)
 f105:=func207.trans (congrArg YH Yb)
 f165:=func259.trans (congrArg YH Yb)
 f166:=func57.trans (congrArg YH Yb)
 f169:=func58.trans (congrArg YH Yb)
 f170:=func260.trans (congrArg YH Yb)
 f206:=func334.trans (congrArg YH Yb)
 f212:=func257.trans (congrArg YH Yb)
 f240:=func116.trans (congrArg YH Yb)
 f241:=func335.trans (congrArg YH Yb)
 f263:=func332.trans (congrArg YH Yb)
 f264:=func333.trans (congrArg YH Yb)
 f276:=func185.trans (congrArg YH Yb)
 f277:=func372.trans (congrArg YH Yb)
 t0:=Tryz.underlying0
 a0:=Tryz.isAgg0
 z0:=Tryz.sizeOf0
 v0:=Tryz.zeroValue0
 t3:=Tryz.underlying3
 a3:=Tryz.isAgg3
 z3:=Tryz.sizeOf3
 v3:=Tryz.zeroValue3
 t4:=Tryz.underlying4
 a4:=Tryz.isAgg4
 z4:=Tryz.sizeOf4
 v4:=Tryz.zeroValue4
 t5:=Tryz.underlying5
 a5:=Tryz.isAgg5
 z5:=Tryz.sizeOf5
 v5:=Tryz.zeroValue5
 t9:=Tryz.underlying9
 a9:=Tryz.isAgg9
 z9:=Tryz.sizeOf9
 v9:=Tryz.zeroValue9
 t20:=Tryz.underlying20
 a20:=Tryz.isAgg20
 z20:=Tryz.sizeOf20
 v20:=Tryz.zeroValue20
 t37:=Tryz.underlying22
 a37:=Tryz.isAgg22
 z37:=Tryz.sizeOf22
 v37:=Tryz.zeroValue22
 t46:=Tryz.underlying222
 a46:=Tryz.isAgg222
 z46:=Tryz.sizeOf222
 v46:=Tryz.zeroValue222
 t51:=Tryz.underlying295
 a51:=Tryz.isAgg295
 z51:=Tryz.sizeOf295
 v51:=Tryz.zeroValue295
 t53:=Tryz.underlying282
 a53:=Tryz.isAgg282
 z53:=Tryz.sizeOf282
 v53:=Tryz.zeroValue282
 t70:=Tryz.underlying106
 a70:=Tryz.isAgg106
 z70:=Tryz.sizeOf106
 v70:=Tryz.zeroValue106
 t72:=Tryz.underlying108
 a72:=Tryz.isAgg108
 z72:=Tryz.sizeOf108
 v72:=Tryz.zeroValue108
 t75:=Tryz.underlying110
 a75:=Tryz.isAgg110
 z75:=Tryz.sizeOf110
 v75:=Tryz.zeroValue110
 t76:=Tryz.underlying111
 a76:=Tryz.isAgg111
 z76:=Tryz.sizeOf111
 v76:=Tryz.zeroValue111
 t109:=Tryz.underlying276
 a109:=Tryz.isAgg276
 z109:=Tryz.sizeOf276
 v109:=Tryz.zeroValue276
 t127:=Tryz.underlying174
 a127:=Tryz.isAgg174
 z127:=Tryz.sizeOf174
 v127:=Tryz.zeroValue174
 t146:=Tryz.underlying324
 a146:=Tryz.isAgg324
 z146:=Tryz.sizeOf324
 v146:=Tryz.zeroValue324
 t148:=Tryz.underlying326
 a148:=Tryz.isAgg326
 z148:=Tryz.sizeOf326
 v148:=Tryz.zeroValue326
 t164:=Tryz.underlying225
 a164:=Tryz.isAgg225
 z164:=Tryz.sizeOf225
 v164:=Tryz.zeroValue225}
theorem Tryz.xu:Builder.Extra prog Tryz.Ae:={
 sizeBuilder:=by kernel_rfl
 liesBuilder:=by kernel_rfl
 t5:=Tryz.underlying5
 a5:=Tryz.isAgg5
 z5:=Tryz.sizeOf5
 v5:=Tryz.zeroValue5
 infoByte:=by kernel_rfl
 cellsByte:=by kernel_rfl
 sizeByte:=by kernel_rfl
 neB5:=by decide}
open Go.RowKit Go.Lib in
theorem Tryz.strings_Repeat(s:ByteArray)(c:Nat)(w:World)(hc:c<=9223372036854775807)(hlen:s.size*c<=140737488355328):
 Calls prog 207 #[.string s,YM YN c] w λe w'=>e=.returned (.string ⟨(Lib.repeatL s.data.toList c).toArray⟩)/\Below w.heap.size w w':=Any.strings_Repeat Tryz.Vb Tryz.xu s c w hc hlen
end Go.Proofs
namespace Go.Proofs.YtdilaemengjipaaGreatDoor
set_option maxRecDepth 10000
open Go.RowKit
set_option maxRecDepth 100000
abbrev RP(b:Nat):Value:=.pointer (YH ⟨b,0,YI⟩)
theorem M7(w:World)(b f:Nat)(sv:Value)(nm:String)(h:w.cell? ⟨b,0,YI⟩=YH (.iface 261 sv))
 (hm:(((prog.info? 309).bind λi=>i.methods.find? (·.name==nm)).map λm=>(m.path,m.func))=YH (#[⟨311,0,YJ⟩],YI))
 (hi:Sem.run prog (method (prog.types.size+99) 261 sv nm) w=.ok (f,sv) w):
 Sem.run prog (method (prog.types.size+100) 309 (RP b) nm) w=.ok (f,sv) w:=by
 obtain⟨m,Io,zW⟩:=Wb.1 hm;obtain⟨i,mZ,Dx⟩:=XY.1 Io;have RC:m.path=#[⟨311,0,YJ⟩]:=congrArg Prod.fst zW;have hfu:m.func=none:=congrArg Prod.snd zW;have u:=run_underlying Tryz.underlying311;unfold method;have hl:Sem.run prog (Sem.load Mode.plain ({ block:=b,off:=0}:Addr) Sem.pure) w=.ok (.iface 261 sv) w:=by
  simp[Sem.run,h]
 simp[typeInfo,mZ,Dx,RC,hfu,follow,Place.get,u,asAddr,loadVar,isAgg,load,h,fieldPlace];rw[show({ block:=b,off:=0}:Addr).add 0={ block:=b,off:=0}from rfl,hl];exact hi
theorem SS(w:World)(b:Nat)(sv:Value)(h:w.cell? ⟨b,0,YI⟩=YH (.iface 261 sv)):
 Sem.run prog (method (prog.types.size + 100) 309 (RP b) "Less") w = .ok (416, .agg #[.iface 261 sv]) w := by
 have hm : (((prog.info? 309).bind λi => i.methods.find? (·.name == "Less")).map λm => (m.path, m.func)) = YH (#[], YH (416, YK)) := by kernel_rfl
 obtain⟨m,Io,zW⟩:=Wb.1 hm;obtain⟨i,mZ,Dx⟩:=XY.1 Io;have RC:m.path=#[]:=congrArg Prod.fst zW;have hfu:m.func=YH (416,YK):=congrArg Prod.snd zW;have u:=run_underlying Tryz.underlying309;have u2:=run_underlying Tryz.underlying311;unfold method;have sM:Sem.run prog (loadVar 311 ⟨b,0,YI⟩) w=.ok (.agg #[.iface 261 sv]) w:=by
  have a1:=Tryz.isAgg311;have a2:=Tryz.sizeOf311;have hl:Sem.run prog (Sem.load Mode.plain ({ block:=b,off:=0}:Addr) Sem.pure) w=.ok (.iface 261 sv) w:=by
   simp[Sem.run,h]
  unfold loadVar loadCells;simp[a1,a2,loadCellsFrom,load];rw[show({ block:=b,off:=0}:Addr).add 0={ block:=b,off:=0}from rfl,hl];rfl
 have hk:∀(x y:ByteArray) (w:World),Sem.run prog (Builtin.ssaWrapNilChk_ #[309] 309 #[RP b,.string x,.string y]) w=.ok (RP b) w:=λ_ _ _=>rfl
 have hf:Sem.run prog (follow [] 309 (Place.val (RP b))) w=.ok (309,Place.val (RP b)) w:=rfl;have hr:∀x,Sem.run prog (receiverAt 309 (Place.val (RP b)) YK (YH x)) w=.ok (.agg #[.iface 261 sv]) w:=by
  intro x;unfold receiverAt;simp[u,Place.get,strVal,hk,asAddr,sM]
 simp[typeInfo,mZ,Dx,RC,hfu,hf,hr]
open Go.Lib Go.Sort
abbrev SV(mv off n c:Nat):Value:=.slice (YH ⟨mv,off,YI⟩) n c
theorem Zcg (mv off n c : Nat) (w : World) : Sem.run prog (method (prog.types.size + 99) 261 (SV mv off n c) "Len") w = .ok (409, SV mv off n c) w := by kernel_rfl
theorem U4 (mv off n c : Nat) (w : World) : Sem.run prog (method (prog.types.size + 99) 261 (SV mv off n c) "Swap") w = .ok (412, SV mv off n c) w := by kernel_rfl
theorem U3 (mv off n c : Nat) (w : World) : Sem.run prog (method (prog.types.size + 100) 261 (SV mv off n c) "Less") w = .ok (410, SV mv off n c) w := by kernel_rfl
theorem RS(mv off c size:Nat)(W:World)(G:Nat->Int)(hc:∀t,t<size->W.cell? ⟨mv,off+t,YI⟩=YH (YM YN (G t)))(i j:Nat)(hi:i<size)(hj:j<size)(_hsz:size<4611686018427387904):
 Calls prog 410 #[SV mv off size c,YM YN i,YM YN j] W λe w'=>e=.returned (.bool (YL (G i<G j)))/\∃q,w'=W.drewN q:=by
 have ci:=hc i hi;have cj:=hc j hj
 go_enter func410,ntmps410
 go_wp2
 go_quiet (fail)
 go_wp2
 go_ret
 exact⟨rfl,nq,rfl⟩
theorem RT(mv off c size:Nat)(W:World)(x y:Int)(i j:Nat)(hi:i<size)(hj:j<size)(_hsz:size<4611686018427387904)
 (ci:W.cell? ⟨mv,off+i,YI⟩=YH (YM YN x)) (cj:W.cell? ⟨mv,off+j,YI⟩=YH (YM YN y)) (fi:W.frozen? ⟨mv,off+i,YI⟩=YK) (fj:W.frozen? ⟨mv,off+j,YI⟩=YK):
 Calls prog 412 #[SV mv off size c,YM YN i,YM YN j] W λe w'=>e=.returned (.tuple #[])/\∃q,w'=((W.setCell ⟨mv,off+i,YI⟩ (YM YN y)).setCell ⟨mv,off+j,YI⟩ (YM YN x)).drewN q:=by
 obtain⟨v',hy'⟩:=cell?_setCell_some (w:=W) (p:=⟨mv,off+i,YI⟩) (x:=YM YN y) (q:=⟨mv,off+j,YI⟩) cj
 go_enter func412,ntmps412
 go_wp2
 go_region
 all_goals(try go_wp2)
 all_goals go_end0
 all_goals exact⟨rfl,1,rfl⟩
theorem U5(mv off c size:Nat)(W:World):Calls prog 409 #[SV mv off size c] W λe w'=>e=.returned (YM YN size)/\w'=W:=by
 go_enter func409,ntmps409
 go_wp2
 go_ret
 simp
theorem SQ(mv off c size:Nat)(W:World)(G:Nat->Int)(hc:∀t,t<size->W.cell? ⟨mv,off+t,YI⟩=YH (YM YN (G t)))(hb:mv<W.heap.size)(i j:Nat)(hi:i<size)(hj:j<size)(wu:size<4611686018427387904):
 Calls prog 416 #[.agg #[.iface 261 (SV mv off size c)],YM YN i,YM YN j] W λe w'=>e=.returned (.bool (YL (G j<G i)))/\∃o q,w'=(W.alloc o).drewN q:=by
 have mL:=U3 mv off size c;have eL:∀args w,(callFunc 410 args).run prog w=.ok (.enter 410 args) w:=enters_of func410 Yb rfl;simp at mL
 have hl:∀o,Calls prog 410 #[SV mv off size c,YM YN j,YM YN i] (W.alloc o) λe w'=>e=.returned (.bool (YL (G j<G i)))/\∃q,w'=(W.alloc o).drewN q:=λo=>
  RS mv off c size _ G (λt ht=>(Below.cell (Up.al o (Up.rfl' W)) (p:=⟨mv,off+t,YI⟩) hb).trans (hc t ht)) j i hj hi wu
 go_enter func416,ntmps416
 go_wp2_with (go_at_fn 410;refine(hl _).mono ?_;rintro e w' ⟨rfl,q,rfl⟩)
 go_ret
 exact⟨rfl,_,q,rfl⟩
theorem SW.ZaW{w0 W:World}{mv off:Nat}{dk:Array Int}(h:SW (Value.int .i64) w0 mv off dk W){b o:Nat}(hb:b<w0.heap.size)(iq:b≠mv):W.cell? ⟨b,o,YI⟩=w0.cell? ⟨b,o,YI⟩:=by
 obtain⟨n,os,rfl⟩:=h;unfold sortWorld;rw[cell?_grow _ _ _ Yg,cell?_putRow_other _ _ _ _ _ _ (.inl iq)];rfl
def zT(x y:Int):Bool:=YL (y<x)
theorem U1(mv off c b bR:Nat)(d:Array Int)(w:World)(hH:Holds (Value.int .i64) w mv off d)(wo:mv<w.heap.size)(hR:w.cell? ⟨bR,0,YI⟩=YH (.iface 261 (SV mv off d.size c)))(hRb:bR<w.heap.size)(iq:bR≠mv)
 (B8:0<=b) (hb:b<=d.size) (wu:d.size<4611686018427387904):
 Calls prog 357 #[.iface 309 (RP bR),YM YN 0,YM YN b] w λe w'=>e=.returned (.tuple #[])/\SW (Value.int .i64) w mv off (Sort.insertionSort zT d 0 b) w':=by
 have eL:∀args w,(callFunc 416 args).run prog w=.ok (.enter 416 args) w:=enters_of func416 Yb rfl;have eS:∀args w,(callFunc 412 args).run prog w=.ok (.enter 412 args) w:=enters_of func412 Yb rfl
 go_enter func357,ntmps357
 go_wp2
 go_loopw [6] (λvi wr=>∃(i:Nat) (dk:Array Int),vi=YM YN i/\0<i/\i<=b+1/\dk.size=d.size/\SW (Value.int .i64) w mv off dk wr/\
  insOuter zT 0 b i dk=insOuter zT 0 b (0+1) d) (λvi _=>b+1-(intOf vi).toNat)
 case atStart=>exact⟨1,d,by rfl,X9,X9,rfl,SW.start hH,rfl⟩
 case round=>
  obtain⟨i,dk,rfl,hai,hib,hsk,GR,hO⟩:=hrel;have HO:Hid (insOuter zT 0 b i dk=insOuter zT 0 b (0+1) d):=hO;clear hO
  go_wp2
  ·go_loopw [7] (λvj wr2=>∃(j:Nat) (dj:Array Int),vj=YM YN j/\j<=i/\dj.size=d.size/\SW (Value.int .i64) w mv off dj wr2/\
    insInner zT 0 j dj=insInner zT 0 i dk) (λvj _=>(intOf vj).toNat)
   case atStart=>grind
   case round=>
    obtain⟨j,dj,rfl,FH,hsj,Az,hI⟩:=hrel;have bU:i<b:=X9;have HW:Hid (SW (Value.int .i64) w mv off dj wr):=Az;have HI:Hid (insInner zT 0 j dj=insInner zT 0 i dk):=hI;have hHj:=Az.holds wo hH hsj;have hbw:=Az.lt wo;have hRw:wr.cell? ⟨bR,0,YI⟩=YH (.iface 261 (SV mv off d.size c)):=(SW.ZaW Az hRb iq).trans hR;clear Az hI;have out:(j<=0\/zT dj[j]! dj[j-1]! = YK)->∀W,SW (Value.int .i64) w mv off dj W->∃(i':Nat) (dk':Array Int),Value.int .i64 ((i:Int)+1)=YM YN (i':Nat)/\0<i'/\i'<=b+1/\dk'.size=d.size/\
     SW (Value.int .i64) w mv off dk' W/\insOuter zT 0 b i' dk'=insOuter zT 0 b (0+1) d:=λhs W hW=>
     ⟨i+1,dj,by rfl,X9,X9,hsj,hW,
      by rw[<-HO.out,insOuter_go _ _ _ _ _ bU,<-HI.out,insInner_stop _ _ _ _ hs]⟩
    have OUT:Hid _:=out;clear out
    by_cases hja:0<j
    ·have mL:=SS wr bR _ hRw
     simp at mL
     have hl:=SQ mv off c d.size wr (λt=>dj[t]!) (λt ht=>(hHj t X9).1) hbw j (j-1) X9 X9 wu
     rw[show(((j-1:Nat):Int))=(j:Int)-1 by omega]at hl
     have W2:Hid (∀o q,SW (Value.int .i64) w mv off dj ((wr.alloc o).drewN q)):=λo q=>(HW.out.alloc o).drewN q
     have mS : ∀ o q, Sem.run prog (method (prog.types.size + 100) 309 (RP bR) "Swap") ((wr.alloc o).drewN q) = .ok (412, SV mv off d.size c) ((wr.alloc o).drewN q) := λo q =>
      M7 ((wr.alloc o).drewN q) bR 412 (SV mv off d.size c) "Swap" ((SW.ZaW (W2.out o q) hRb iq).trans hR) Yb (U4 _ _ _ _ _)
     simp at mS
     have TF:∀o q,Calls prog 412 #[SV mv off d.size c,YM YN j,YM YN ((j-1:Nat):Int)] ((wr.alloc o).drewN q) λe w'=>e=.returned (.tuple #[])/\SW (Value.int .i64) w mv off (swp dj j (j-1)) w':=λo q=>by
      have hh:=(W2.out o q).holds wo hH hsj;refine(RT mv off c d.size _ _ _ j (j-1) X9 X9 wu (hh j X9).1 (hh (j-1) X9).1 (hh j X9).2 (hh (j-1) X9).2).mono ?_;rintro e w' ⟨rfl,q',rfl⟩;exact⟨rfl,((W2.out o q).swap wo j (j-1) X9 X9).drewN q'⟩
     rw[show(((j-1:Nat):Int))=(j:Int)-1 by omega]at TF
     change Calls _ _ _ _ λe w'=>e=.returned (.bool (zT dj[j]! dj[j-1]!))/\_ at hl
     cases sM:zT dj[j]! dj[j-1]! with
     |true=>
      rw[sM]at hl
      go_wp2_with (first
       |(go_at_fn 416;refine hl.mono ?_;rintro e w' ⟨rfl,o,q,rfl⟩)
       |(go_at_fn 412;refine(TF _ _).mono ?_;rintro e w' ⟨rfl,hS⟩))
      go_roundw
      case rel=>
       (repeat apply Exists.intro)
       refine⟨⟨j-1,swp dj j (j-1),by congr 1<;>omega,X9,by rw[size_swp];omega,hS,?_⟩,by rw[X1 bU,show((j-1:Nat):Int)=(j:Int)-1 by omega]⟩
       rw[<-HI.out,insInner_go zT 0 j dj hja sM]
      case measure=>simp[intOf];omega
     |false=>
      rw[sM]at hl
      go_wp2_with (go_at_fn 416;refine hl.mono ?_;rintro e w' ⟨rfl,o,q,rfl⟩)
      go_roundw
      case rel=>exact OUT.out (Or.inr sM) _ (W2.out o q)
      case measure=>simp[intOf];omega
    ·go_wp2
     go_roundw
     case rel=>exact OUT.out (Or.inl X9) _ HW.out
     case measure=>simp[intOf];omega
  ·have yM:¬i<b:=X9
   go_end0
   exact⟨rfl,by unfold Sort.insertionSort;rw[<-HO.out,insOuter_stop _ _ _ _ _ yM];omega⟩
end Go.Proofs.YtdilaemengjipaaGreatDoor
namespace Go.Proofs.YtdilaemengjipaaGreatDoor
set_option maxRecDepth 10000
open Go.RowKit Go.Lib Go.Sort
set_option maxRecDepth 100000
theorem Zgx(mv off c lim bR:Nat)(d:Array Int)(w:World)(hH:Holds (Value.int .i64) w mv off d)(wo:mv<w.heap.size)(hd:d.size=3)(hR:w.cell? ⟨bR,0,YI⟩=YH (.iface 261 (SV mv off d.size c)))(hRb:bR<w.heap.size)(iq:bR≠mv):
 Calls prog 309 #[.iface 309 (RP bR),YM YN 0,YM YN 3,YM YN lim] w λe w'=>e=.returned (.tuple #[])/\SW (Value.int .i64) w mv off (Sort.insertionSort zT d 0 3) w':=by
 have hi:=U1 mv off c 3 bR d w hH wo hR hRb iq X9 X9 X9;rw[show((3:Nat):Int)=3 from rfl]at hi
 clear hH hR
 go_enter func309,ntmps309
 go_wp2
 go_loopw [1,2] (λv1 v2 wr=>v1=YM YN 0/\v2=YM YN 3/\wr=w) (λ_ _ _=>0)
 case atStart=>simp
 case round=>
  obtain⟨rfl,rfl,rfl⟩:=hrel
  go_wp2_with (go_at_call 357;refine hi.mono ?_;rintro e w' ⟨rfl,hS⟩)
  (try simp only[Exit.inBlock,Exit.then])
  refine bodyPost_ret (results_none rfl _ _ _) rfl ?_
  simp_all
theorem Te(mv off c bR:Nat)(d:Array Int)(w:World)(hH:Holds (Value.int .i64) w mv off d)(wo:mv<w.heap.size)(hd:d.size=3)(hR:w.cell? ⟨bR,0,YI⟩=YH (.iface 261 (SV mv off d.size c)))(hRb:bR<w.heap.size)(iq:bR≠mv):
 Calls prog 246 #[.iface 309 (RP bR)] w λe w'=>e=.returned (.tuple #[])/\SW (Value.int .i64) w mv off (Sort.insertionSort zT d 0 3) w':=by
 have mN := M7 w bR 409 (SV mv off d.size c) "Len" hR Yb (Zcg _ _ _ _ _)
 simp at mN
 have eN:∀args w,(callFunc 409 args).run prog w=.ok (.enter 409 args) w:=enters_of func409 Yb rfl;have hN:=U5 mv off c d.size w;have hL:=Tryz.bits_Len 3 w X9 X9;have hp:=λlim=>Zgx mv off c lim bR d w hH wo hd hR hRb iq
 rw[hd]at mN hN
 rw[show((3:Nat):Int)=3 from rfl]at hN
 clear hH hR
 go_enter func246,ntmps246
 go_wp2_with (first
  |(go_at_fn 409;refine hN.mono ?_;rintro e w' ⟨rfl,rfl⟩)
  |(go_at_call 212;refine hL.mono ?_;rintro e w' ⟨rfl,rfl⟩)
  |(go_at_call 309;refine(hp _).mono ?_;rintro e w' ⟨rfl,hS⟩))
 all_goals first
  |(exfalso;omega)
  |(go_end0;simp_all)
end Go.Proofs.YtdilaemengjipaaGreatDoor
namespace Go.Proofs.YtdilaemengjipaaGreatDoor
set_option maxRecDepth 10000
open Go.RowKit
variable {A:Option Addr}{B E base c:Nat}{P:Program}{Q:Exit->Act->World->Prop}{a:Act}{o:Oper}{v:Value}{w w' w0:World}{α:Type}{ys:List α}
structure P3(P:Program)(t e:TypeId)(k bytes:Nat):Prop where
 ht:P.underlying t=YH (.slice e)
 info:∃i z,P.info? e=YH i/\i.zero=YH z/\i.size=k/\i.bytes=bytes/\z.cells.size=k
theorem P3.mk'{t e:TypeId}{k bytes:Nat}{z:Value}(ht:P.underlying t=YH (.slice e))(h:(P.info? e).map (λi=>(i.zero,i.size,i.bytes))=YH (YH z,k,bytes))(hz:z.cells.size=k):P3 P t e k bytes:=by
 obtain⟨i,h1,h2,h3,h4⟩:=info_parts h;exact⟨ht,i,z,h1,h2,h3,h4,hz⟩
theorem Own.form[eQ α]{xs:List α}(h:Own w B E v xs):∃A c,v=.slice A xs.length c/\xs.length<=c/\c<=maxLen:=by
 rcases h.2 with⟨hv,h0⟩ |⟨g,cap,cur,hv,_,_,va,Ef,_⟩
 all_goals grind
theorem Own.Vs[eQ α](w:World)(B E:Nat):Own w B E (.slice YI 0 0) ([]:List α):=World.ownsRow_nil _ _ _ _
theorem Own.empty[eQ α](w:World)(B E c:Nat)(cur:Array Value)(hB:B<=w.heap.size)(hm:c<=maxLen)(hs:cur.size=c*eQ.k α):
 Own (w.alloc (.cells cur E)) B E (.slice (YH ⟨w.heap.size,0,YI⟩) 0 c) ([]:List α):=World.ownsRow_made w cur c hB hm hs
theorem Own.more[eQ α]{B B' E:Nat}{xs:List α}(h:Own w B E v xs)(hB:B'<=B):Own w B' E v xs:=by
 refine⟨h.1,?_⟩
 rcases h.2 with h2|⟨g,cap,cur,hv,hb,r⟩
 ·simp_all
 ·exact .inr ⟨g,cap,cur,hv,X9,r⟩
theorem Own.down[eQ α]{w0 W w:World}{xs:List α}(h:Own w W.heap.size E v xs)(hu:Up w0 W):Own w w0.heap.size E v xs:=h.more hu.size
theorem Up.le(h:Up w0 w):w0.heap.size<=w.heap.size:=h.size
theorem Own.grown[eQ α]{xs:List α}{row:Option Nat}(h:Own w B E v xs)(hg:w.grownBy w' row)(iq:v.ownBlock=YI\/v.ownBlock≠row):Own w' B E v xs:=
 World.ownsRow.kept h hg iq
theorem Rd.one[eQ α](w:World)(T:TypeId)(x:α)(B:Nat)(hB:w.heap.size<B):Rd (w.alloc (.cells (eQ.cells x).toArray T)) B (YH ⟨w.heap.size,0,YI⟩) [x]:=by
 intro _;refine⟨w.heap.size,0,rfl,hB,λj u hu=>?_⟩
 rw[Q2]at hu
 simp_all
theorem addr_add(b o j:Nat):(⟨b,o,YI⟩:Addr).add j=⟨b,o+j,YI⟩:=by unfold Addr.add;simp
theorem xj[eQ α](w:World){t ty e:Nat}{i:TypeInfo}(ht:P.underlying t=YH (.slice e))(hi:P.info? e=YH i)(oM:Own w base e v ys)(c:Nat):
 (Builtin.append_ #[t,t] ty #[v,.slice YI 0 c]).run P w=.ok v w:=by
 rcases oM.2 with⟨rfl,h0⟩ |⟨g,cap,cur,rfl,_,_,va,_⟩
 ·simp[Builtin.append_,run_underlying ht,sizeOf,typeInfo,hi,Builtin.lenOf,Builtin.firstCells]
 ·simp[Builtin.append_,run_underlying ht,sizeOf,typeInfo,hi,Builtin.lenOf,Builtin.firstCells,va,storeCells]
theorem DJ[eQ α](w:World){t ty e bytes:Nat}(T:P3 P t e (eQ.k α) bytes)(oM:Own w base e v ys)
 {xs:List α} (hr:Rd w B A xs) (qw:(ys.length+xs.length)*bytes<=140737488355328) (h63:ys.length+xs.length<=maxLen) (Ig:base<=w.heap.size):
 ∃v' w',(Builtin.append_ #[t,t] ty #[v,.slice A xs.length c]).run P w=.ok v' w'/\Own w' base e v' (ys++xs)/\w.grownBy w' v.ownBlock/\(v'.ownBlock=v.ownBlock\/v'.ownBlock=YH w.heap.size):=by
 obtain⟨i,z,hi,hz,hs,hb,hzs⟩:=T.info
 cases A with
 |none=>
  have hx:xs=[]:=by
   rcases Classical.em (xs=[])with h|h
   ·exact h
   ·obtain⟨_,_,h',_⟩:=hr h
    grind
  subst hx;have kh:=xj (P:=P) w (ty:=ty) T.ht hi oM c;exact⟨v,w,X9,by simp_all,⟨rfl,rfl,rfl,VX _,λ_ _ _=>rfl⟩,.inl rfl⟩
 |some ad=>
  have MD:∀j u,(flat xs)[j]?=YH u->w.cell? (ad.add j)=YH u:=by
   intro j u hu;have iq:xs≠[]:=by rintro rfl;simp[flat]at hu
   obtain⟨b,off,hA',_,hc⟩:=hr iq;injection hA' with hA'
   subst hA';rw[addr_add]
   simp_all
  obtain⟨v',w',kh,h2,h3,_,h5⟩:=run_append_own_at (P:=P) w base t ty e i z (eQ.k α) bytes T.ht hi hz hs hb hzs eQ.pos v ys.length (flat ys) oM ad xs.length c (flat xs) (rz xs) MD (Fz xs) h63 qw Ig;refine⟨v',w',kh,?_,h3,h5⟩;have e1:(ys++xs).length=ys.length+xs.length:=List.length_append;unfold Own;rw[e1,HY];omega
theorem Up.ZbV[eQ α]{base e:Nat}(h:Up w0 w)(hg:w.grownBy w' v.ownBlock)(oM:Own w base e v ys)(hb:w0.heap.size<=base):Up w0 w':=
 Below.grown h hg h.size (λk hk=>Wq hb (World.ownsRow.lt oM k hk).1)
theorem GG[eQ α]{K:Act->World->Prop}{t e bytes:Nat}(T:P3 P t e (eQ.k α) bytes)
 (s x:Operand) (ho:o.op=.call { callee:=.builtin .append,args:=#[s,x],argTypes:=#[t,t]})
 (hs:a.eval s=v) (oM:Own w base e v ys)
 {xs:List α} (n:Nat) (hx:a.eval x=.slice A n c) (hn:n=xs.length) (hr:Rd w B A xs)
 (qw:(ys.length+xs.length)*bytes<=140737488355328) (h63:ys.length+xs.length<=maxLen) (Ig:base<=w.heap.size)
 (h:∀v' w',Own w' base e v' (ys++xs)->w.grownBy w' v.ownBlock->(v'.ownBlock=v.ownBlock\/v'.ownBlock=YH w.heap.size)->(∀w0,w0.heap.size<=base->Up w0 w->Up w0 w')->K (a.put o.dst v') w'):
 o.wp P a w K Q:=by
 subst hn;obtain⟨v',w',kh,h2,h3,h4⟩:=DJ (P:=P) w (ty:=o.type) (c:=c) T oM hr qw h63 Ig;unfold Oper.wp execOp;simp only[ho,resolve,invoke,builtin,Sem.run_bind,Sem.run_pure,Result.andThen_ok,List.map_toArray,List.map_cons,List.map_nil,hs,hx,kh];exact h v' w' h2 h3 h4 λw0 hb hu=>Up.ZbV hu h3 oM hb
theorem iV[eQ α]{ops:Array Oper}{rest:List Oper}{t e bytes:Nat}(T:P3 P t e (eQ.k α) bytes)
 (hgd:o.guard=YI) (s x:Operand) (ho:o.op=.call { callee:=.builtin .append,args:=#[s,x],argTypes:=#[t,t]})
 (hs:a.eval s=v) (oM:Own w base e v ys)
 {xs:List α} (n:Nat) (hx:a.eval x=.slice A n c) (hn:n=xs.length) (hr:Rd w B A xs)
 (qw:(ys.length+xs.length)*bytes<=140737488355328) (h63:ys.length+xs.length<=maxLen) (Ig:base<=w.heap.size)
 (h:∀v' w',Own w' base e v' (ys++xs)->w.grownBy w' v.ownBlock->(v'.ownBlock=v.ownBlock\/v'.ownBlock=YH w.heap.size)->(∀w0,w0.heap.size<=base->Up w0 w->Up w0 w')->wpList P ops Q rest (a.put o.dst v') w'):
 wpList P ops Q (o::rest) a w:=
 wpList_plain hgd λ_ hK=>GG T s x ho hs oM n hx hn hr qw h63 Ig λv' w' h2 h3 h4 h5=>hK _ _ (h v' w' h2 h3 h4 h5)
end Go.Proofs.YtdilaemengjipaaGreatDoor
namespace Go.Proofs.YtdilaemengjipaaGreatDoor
set_option maxRecDepth 10000
open Go.RowKit Go.Lib Go.Sort
set_option maxRecDepth 100000
theorem Mq:P3 prog 25 3 (eQ.k Int) 8:=P3.mk' (z:=YM YN 0) Tryz.underlying25 Yb rfl
theorem sr(ls:List Int):flat ls=ls.map (Value.int .i64):=by
 induction ls with
 |nil=>rfl
 |cons x xs ih=>rw[tA,ih];rfl
theorem Zgu{w:World}{B:Nat}{v:Value}{xs:List Int}(h:Own w B 3 v xs)(hl:xs.length=3):∃g cap cur,v=.slice (YH ⟨g,0,YI⟩) 3 cap/\B<=g/\w.heap[g]?=YH (.cells cur 3 (0,0))/\3<=cap/\cap<=maxLen/\cur.size=cap*1/\cur.toList.take 3=xs.map (Value.int .i64):=by
 rcases h.2 with⟨_,h0⟩ |⟨g,cap,cur,hv,hB,hg,va,Ef,sL,ht⟩
 ·omega
 ·rw[hl]at hv va ht
  rw[sr]at ht
  exact⟨g,cap,cur,hv,hB,hg,va,Ef,sL,ht⟩
theorem SR(W:World)(sv:Value):Calls prog 247 #[.iface 261 sv] W λe w'=>e=.returned (.iface 309 (RP W.heap.size))/\w'=W.alloc (.cells #[.iface 261 sv] 311):=by
 go_enter func247,ntmps247
 go_wp2
 go_ret
 simp
def AG(xs:List Int):List Int:=(Sort.insertionSort zT xs.toArray 0 3).toList
theorem wM(lt:Int->Int->Bool)(a:Nat):∀(j:Nat) (d:Array Int),(insInner lt a j d).size=d.size
 |0,d=>rfl
 |j+1,d=>by
  unfold insInner
  split
  ·rw[wM lt a j,size_swp]
  rfl
theorem wN(lt:Int->Int->Bool)(a b:Nat):∀(n i:Nat) (d:Array Int),b-i<=n->(insOuter lt a b i d).size=d.size
 |0,i,d,h=>by rw[insOuter,if_neg X9]
 |n+1,i,d,h=>by
  rw[insOuter]
  split
  ·rw[wN lt a b n (i+1) _ X9,wM]
  rfl
theorem JE(xs:List Int):(AG xs).length=xs.length:=by
 unfold AG Sort.insertionSort;rw[Array.length_toList,wN _ _ _ 3 _ _ X9];simp
theorem DK(A:Option Addr)(xs:List Int)(c:Nat)(w:World)(hr:Rd w w.heap.size A xs)(hl:xs.length=3):
 Calls prog 197 #[.slice A 3 c] w λe w'=>∃v,e=.returned v/\Own w' w.heap.size 3 v (AG xs)/\Up w w':=by
 go_enter func197,ntmps197
 go_wp2_with (at_builtin;refine iV Mq rfl (.tmp 4) (.tmp 5) rfl (base:=w.heap.size) (ys:=[]) Yx (Own.empty w _ _ 0 _ (VX _) Yo rfl) 3 Yx hl.symm (hr.up Ya) Yi Yr (by first|(simp;done) |(simp;omega) |(have h_:=hB.size;omega) |(have h_:=hB.size;simp;omega)) ?_;intro v' w1 Dz hg1 _ Ej;refine Hid.out ?_)
 refine Lib.hid ?_;have ho:Own w1 w.heap.size 3 v' xs:=by simpa using Dz
 have hu:=Ej w (VX _) Ya;obtain⟨g,cap,cur,rfl,hgB,UK,h3,Ef,sL,hct⟩:=Zgu ho hl;have uQ:g<w1.heap.size:=(Array.getElem?_eq_some_iff.1 UK).1;have hRv:=SR w1 (SV g 0 3 cap);have UJ:∀o,(w1.alloc o).heap[g]?=YH (.cells cur 3 (0,0)):=λo=>(Below.block (Up.al o (Up.rfl' w1)) g uQ).trans UK
 have wu:∀o,(w1.alloc o).heap.size=w1.heap.size+1:=λo=>by simp
 have hS:∀o,o=Obj.cells #[.iface 261 (SV g 0 3 cap)] 311 (0,0)->_:=λo ho=>Te g 0 cap w1.heap.size xs.toArray (w1.alloc o) (holds_of_blockI (UJ o) (by rw[hl];exact hct)) (by rw[wu];omega) (by simp[hl]) (by subst ho;rw[cell_of_row _ _ 0 _ _ (0,0) (heap_alloc_new w1 _)];simp[hl]) (by rw[wu];omega) X9
 have Ib:=hS _ rfl;clear hS
 go_wp2_with (first
  |(go_at_call 247;refine hRv.mono ?_;rintro e w' ⟨rfl,rfl⟩)
  |(go_at_call 246;refine Ib.mono ?_;rintro e w' ⟨rfl,hSW⟩))
 go_ret
 obtain⟨n,os,rfl⟩:=hSW;have bU:(AG xs).length=xs.length:=JE xs;have oM:=ownsRow_sortedI (n:=n) (os:=os) (ss:=xs) (ts:=AG xs) bU hgB (UJ (Obj.cells #[.iface 261 (SV g 0 3 cap)] 311 (0,0))) X9 Ef sL;refine⟨_,rfl,?_,?_⟩
 ·unfold Own
  rw[bU,sr];rw[hl]at oM⊢
  unfold AG at oM⊢
  exact oM
 ·have KC:=grownBy_sortedI (w:=w1.alloc (Obj.cells #[.iface 261 (SV g 0 3 cap)] 311 (0,0))) (g:=g) (n:=n) (os:=os) (Sort.insertionSort zT xs.toArray 0 3)
  have J0:=Up.al (Obj.cells #[.iface 261 (SV g 0 3 cap)] 311 (0,0)) hu;exact⟨KC.os.trans J0.os,KC.tape.trans J0.tape,KC.output.trans J0.output,Wq J0.size KC.size,λb hb=>(KC.block b (Nat.lt_of_lt_of_le hb J0.size) Yd).trans (J0.block b hb)⟩
end Go.Proofs.YtdilaemengjipaaGreatDoor
namespace Go.Proofs.YtdilaemengjipaaGreatDoor
set_option maxRecDepth 10000
open Go.RowKit
theorem vW{α:Type}[eQ α]{c:α->List PV}{T:TypeId}{S:Nat->Prop}{β:Nat->Option qm}{w w':World}{v:Value}{ys:List α}{ω:Nat->Key->Prop}(hk:Ok w (np β) (E1 S β 0 ω) w [])(ho:Own w' w.heap.size T v ys)(hu:Up w w')
 (hc:∀(x:α),(c x).length=eQ.k α/\∀(j:Nat) (p:PV),(c x)[j]?=YH p->∃u,(eQ.cells x)[j]?=YH u/\u.oneCell'=YJ/\∀(w:World) (E:Env),dE w E p u):
 ∃E',Ok w (np β) E' w' [YH ⟨T,eQ.k α,ys.map c⟩]/\(∀b,S b->E'.S b)/\(∀b,E'.S b->S b\/w.heap.size<=b\/np β b)/\((∀l B,l<0->E'.β l=YH B->β l=YH B)/\∀b q,E'.ω b q->ω b q\/w.heap.size<=b\/np β b)/\dE w' E' (.ms 0) v:=by
 have ZdZ:∀(i:Nat) (cs:List PV),(ys.map c)[i]?=YH cs->cs.length=eQ.k α:=by
  intro i cs hi;rw[Wj]at hi
  obtain⟨y,_,rfl⟩:=Wb.1 hi;exact(hc y).1
 have key:∀(B:qm),v=B.sv->v.oneCell'=YJ->(B.z=YK->w.heap.size<=B.b/\B.b<w'.heap.size)->(∀E,gm w' E ⟨T,eQ.k α,ys.map c⟩ B)->
  ∃E',Ok w (np β) E' w' [YH ⟨T,eQ.k α,ys.map c⟩]/\(∀b,S b->E'.S b)/\(∀b,E'.S b->S b\/w.heap.size<=b\/np β b)/\((∀l B,l<0->E'.β l=YH B->β l=YH B)/\∀b q,E'.ω b q->ω b q\/w.heap.size<=b\/np β b)/\dE w' E' (.ms 0) v:=by
  intro B hv h1 hB hb;obtain⟨h2,_⟩:=hk.new (ν:=0) (λh=>absurd h (Nat.not_lt_zero 0)) ⟨T,eQ.k α,ys.map c⟩ B hu.os hu.tape hu.output hu.size (λb hb=>hu.block b hb) hB (λ_=>hb _)
  refine⟨_,h2,λb h=>h,λb h=>.inl h,⟨λl B h=>absurd h (Nat.not_lt_zero l),λ_ _ h=>.inl h⟩,.ms 0 v (.inl rfl) h1 λB' nB=>?_⟩
  have:B'=B:=by simpa[Env.add,eq_comm]using nB
  rw[this];exact hv
 rcases ho.2 with⟨hv,h0⟩ |⟨g,cap,cur,hv,hB,hg,va,Ef,sL,ht⟩
 ·have hy:ys=[]:=List.length_eq_zero_iff.1 h0
  subst hy;exact key ⟨0,0,0,eQ.k α,T,YJ⟩ (by rw[hv];rfl) (by rw[hv];rfl) (λh=>by cases h) λE=>⟨rfl,rfl,rfl,eQ.pos,VX _,Wu _,ZdZ,λ_=>rfl,λh=>Yj,λ_ h=>by cases h⟩
 ·refine key ⟨g,cap,ys.length,eQ.k α,T,YK⟩ (by rw[hv];rfl) (by rw[hv];rfl) (λ_=>⟨hB,(Array.getElem?_eq_some_iff.1 hg).1⟩) λE=>⟨rfl,by simp,rfl,eQ.pos,va,Ef,ZdZ,(λh=>by cases h),λ_=>⟨cur,hg,sL,λi cs j p hi hj=>?_⟩,λ_ h=>by cases h⟩
  rw[Wj]at hi
  obtain⟨y,hy,rfl⟩:=Wb.1 hi;obtain⟨hl,AS⟩:=hc y;obtain⟨u,Ej,J0,hu3⟩:=AS j p hj;refine⟨u,?_,J0,hu3 _ _⟩;have hf:=ug hy Ej;have bU:=(VT.1 hf).1;rw[rz]at bU
  have:=congrArg (λl:List Value=>l[i*eQ.k α+j]?) ht
  have h2:(cur.toList.take (ys.length*eQ.k α))[i*eQ.k α+j]?=(flat ys)[i*eQ.k α+j]?:=this;rw[List.getElem?_take_of_lt bU,Array.getElem?_toList,hf]at h2
  exact h2
end Go.Proofs.YtdilaemengjipaaGreatDoor
namespace Go.Proofs.YtdilaemengjipaaGreatDoor
set_option maxRecDepth 10000
open Go.RowKit Go.Lib
def mB(l:List Int):Option (List Int):=if l.length=3 then YH (AG l)else YI
theorem Zaa{w:World}{S:Nat->Prop}{xs:List Int}{x:Value}(wu:∀b,S b->b<w.heap.size)(h:fg w S (.sl (xs.map aE)) x):∃A c,x=.slice A xs.length c/\xs.length<=c/\Rd w w.heap.size A xs:=by
 generalize hq:PV.sl (xs.map aE)=q at h
 cases h with
 |v x h=>grind
 |ud=>grind
 |un=>grind
 |rp=>grind
 |fn=>grind
 |nil A c=>
  have:xs=[]:=by simp_all
  exact⟨A,c,by simp_all,by simp_all,by rw[this];exact Rd.Vs⟩
 |sl es b off k c u hS hkp va hm xT AS h1 hrr=>
  obtain rfl:xs.map aE=es:=by simp_all
  refine⟨_,c,by simp,by simp_all,λiq=>⟨b,off,rfl,wu b hS,λj u' It=>?_⟩⟩
  have gH:0<xs.length:=List.length_pos_iff.2 iq;have UM:k=1:=(xT 0 (aE xs[0]) Ye).symm;subst UM;rw[sr]at It
  rw[Wj]at It
  obtain⟨y,hy,rfl⟩:=Wb.1 It;have hj:=(VT.1 hy).1;have e1:(xs.map aE)[j]?=YH (aE y):=by simp_all
  have hc:=AS j _ 0 (vi y) e1 rfl;have hz:=hrr j _ 0 (vi y) e1 rfl;have uM:u j 0=YM YN y:=by
   generalize hp:u j 0=z at hz
   cases hz with
   |v _ _=>rfl
  simp_all
theorem yo(l:List Int){r:List Int}(H:mB l=YH r):fL prog 197 [.sl (l.map aE)] [] (.ms 0) [YH ⟨.of 3,1,r.map aE⟩]:=by
 unfold mB at H
 split at H
 case isFalse=>cases H
 rename_i TE;obtain rfl:=Option.some.inj H;intro S β w vs ω hk hl ha;obtain⟨x,hx0,hr⟩:=ha 0 _ rfl;have hv:vs=#[x]:=by
  grind
 subst hv;have hr0:fg w S (.sl (l.map aE)) x:=by cases hr with|c h=>exact h
 obtain⟨A,c,rfl,ZbZ,PW⟩:=Zaa hk.sz hr0;rw[TE];refine(DK A l c w PW TE).mono ?_;rintro e w' ⟨v,rfl,ho,hu⟩;obtain⟨E',h1,h2,h3,h4,h5⟩:=vW (c:=aE) hk ho hu (λx=>⟨rfl,λj p hj=>by
  cases j with
  |zero=>obtain rfl:vi x=p:=by simp_all
         exact⟨_,rfl,rfl,λw E=>.c (.v _ rfl)⟩
  |succ j=>simp_all⟩)
 exact⟨v,E',rfl,h1,h2,h3,h4,h5⟩
instance (l:List Int):CT prog (mB l):=⟨197,[.sl (l.map aE)],[],λr=>.ms 0,λr=>[YH ⟨.of 3,1,r.map aE⟩],yo l⟩
end Go.Proofs.YtdilaemengjipaaGreatDoor
namespace Go.Proofs.YtdilaemengjipaaGreatDoor
set_option maxRecDepth 10000
open Go.RowKit
instance :eQ ByteArray where
 cells x:=[.string x]
 k:=1
 len _:=rfl
 pos:=by decide
 one:=by simp[Value.oneCell']
theorem D7(ls:List ByteArray):flat ls=ls.map Value.string:=by
 induction ls with
 |nil=>rfl
 |cons x xs ih=>rw[tA,ih];rfl
end Go.Proofs.YtdilaemengjipaaGreatDoor
namespace Go.Proofs.YtdilaemengjipaaGreatDoor
set_option maxRecDepth 10000
open Go.RowKit Go.Maps Go.WideMaps
variable {Q:Exit->Act->World->Prop}{a:Act}{o:Oper}{ops:Array Oper}{rest:List Oper}
def PX(S:List ByteArray)(s:ByteArray):Bool:=S.any λy=>YL (y=s)
theorem MG{S:List ByteArray}{s:ByteArray}:PX S s=YJ↔s∈S:=by simp[PX]
theorem Iw(S:List ByteArray)(s s':ByteArray):PX (S++[s]) s'=(PX S s' ||YL (s=s')):=by simp[PX]
def dd(out:List ByteArray)(s:ByteArray):List ByteArray:=if PX out s=YJ then out else out++[s]
def ir(n:aj):List ByteArray:=n.aA.flatMap λl=>[l.au,l.a8]
theorem um{w w':World}{row:Option Nat}(h:w.grownBy w' row){b o:Nat}(hb:b<w.heap.size)(iq:YH b≠row):w'.cell? ⟨b,o,YI⟩=w.cell? ⟨b,o,YI⟩:=by simp[World.cell?,h.block b hb iq]
theorem Rd.IV{α:Type}[eQ α](w:World)(T:TypeId)(x:α)(H:Nat)(hH:w.heap.size=H):Rd (w.alloc (.cells (eQ.cells x).toArray T)) (H+1) (YH ⟨H,0,YI⟩) [x]:=by
 subst hH;exact Rd.one w T x _ (Nat.lt_succ_self _)
theorem Mc{w:World}{b o:Nat}{u:Value}{ob:Obj}(h:w.cell? ⟨b,o,YI⟩=YH u):(w.alloc ob).cell? ⟨b,o,YI⟩=YH u:=
 ((Up.al ob (Up.rfl' w)).cell (p:=⟨b,o,YI⟩) (World.block_lt_of_cell? _ _ h)).trans h
def sN(P:Program)(k e:TypeId)(w:World)(b n:Nat)(S:List ByteArray):Prop:=
 ∃D:DataW Unit,w.ownsMap P k (plainElem P e) b n D/\IsMap D/\∀s:ByteArray,D.atKey (.string s.data.toList) (.lit (.bool YK))=.lit (.bool (PX S s))
section
variable {P:Program} {k e:TypeId} {w:World} {b n:Nat} {S:List ByteArray}
theorem sN.bd(w:World):sN P k e (w.alloc (.map #[] 0)) w.heap.size 0 []:=
 ⟨_,World.ownsMap_made w P k _,isMap_empty,λs=>by rfl⟩
theorem sN.kept{w':World}{row:Option Nat}(h:sN P k e w b n S)(hg:w.grownBy w' row)(iq:YH b≠row):sN P k e w' b n S:=by
 obtain⟨D,h1,h2⟩:=h;exact⟨D,h1.kept hg iq,h2⟩
theorem sN.alloc(h:sN P k e w b n S)(o:Obj):sN P k e (w.alloc o) b n S:=by
 obtain⟨D,h1,h2⟩:=h;exact⟨D,h1.alloc o,h2⟩
theorem sN.setCell(h:sN P k e w b n S){a:Addr}(ha:b≠a.block)(u:Value):sN P k e (w.setCell a u) b n S:=by
 obtain⟨D,h1,h2⟩:=h;exact⟨D,h1.setCell ha u,h2⟩
theorem sN.mono(h:sN P k e w b n S){n':Nat}(hn:n<=n'):sN P k e w b n' S:=by
 obtain⟨D,h1,h2⟩:=h;exact⟨D,h1.mono hn,h2⟩
theorem sN.lt(h:sN P k e w b n S):b<w.heap.size:=by obtain⟨D,h1,_⟩:=h;exact h1.lt
theorem Vk{a b:Bool}(h:(DataW.lit (.bool a):DataW Unit)=.lit (.bool b)):a=b:=by simp_all
theorem Qw(he:P.underlying e=YH .bool){v:Value}{z:DataW Unit×List MemPlace}(h:plainElem P e v=YH z):∃c,v=.bool c/\z=(.lit (.bool c),[]):=by
 unfold plainElem at h
 grind
theorem fW(w:World)
 (hg:o.guard=YI) (m x:Operand) (t:TypeId) (hop:o.op=Op.lookup t m x YK)
 (k e:TypeId) (hk:P.underlying k=YH .string) (ht:P.underlying t=YH (.map k e)) (he:P.underlying e=YH .bool) (hz:∀w,(zeroValue e).run P w=.ok (.bool YK) w) (b n:Nat) (S:List ByteArray)
 (hm:a.eval m=.map (YH b)) (oM:sN P k e w b n S) (s:ByteArray) (hx:a.eval x=.string s) (hs:s.size<=maxLen) (c:Bool) (hc:PX S s=c)
 (hK:wpList P ops Q rest (a.put o.dst (.bool c)) w):
 wpList P ops Q (o::rest) a w:=by
 refine wpList_plain hg λK' hK'=>?_
 subst hc;obtain⟨D,h1,h2,h3⟩:=oM;obtain⟨v,ps,kh,hv⟩:=h1.lookup (string_keyed hk) ht (hz w) (plainElem_bool he YK) (keyOf_string_mk hk hs);obtain⟨c,rfl,hc⟩:=Qw he hv;simp only[Prod.mk.injEq]at hc
 have AS:c=PX S s:=Vk (hc.1.symm.trans (h3 s));subst AS;unfold Oper.wp;simp[execOp,hop,hm,hx,kh,Result.andThen];exact hK' _ _ hK
theorem oa(w:World)
 (hg:o.guard=YI) (m x v:Operand) (t:TypeId) (hop:o.op=Op.mapUpdate t m x v)
 (k e:TypeId) (hk:P.underlying k=YH .string) (ht:P.underlying t=YH (.map k e)) (he:P.underlying e=YH .bool) (b n:Nat) (S:List ByteArray)
 (hm:a.eval m=.map (YH b)) (oM:sN P k e w b n S) (hn:n<maxLen) (s:ByteArray) (hx:a.eval x=.string s) (hv:a.eval v=.bool YJ) (hs:s.size<=maxLen)
 (hK:∀w',sN P k e w' b (n+1) (S++[s])->w.grownBy w' (YH b)->wpList P ops Q rest (a.put o.dst YO) w'):
 wpList P ops Q (o::rest) a w:=by
 refine wpList_plain hg λK' hK'=>?_
 obtain⟨D,h1,h2,h3⟩:=oM;obtain⟨w',kh,r1,r2⟩:=h1.update (string_keyed hk) ht hn (keyOf_string_mk hk hs) (plainElem_bool (H:=Unit) he YJ);unfold Oper.wp;simp[execOp,hop,hm,hx,hv,kh,Result.andThen];refine hK' _ _ (hK w' ⟨_,r1,h2.put _ _,λs'=>?_⟩ r2)
 by_cases e:s'=s
 ·subst e
  rw[atKey_put_same h2 (by simp[WideAt.IsKeyLit])]
  rw[Iw];simp
 ·rw[atKey_put_other (by intro h;simp at h;exact e (by obtain⟨⟨x⟩⟩:=s';simp_all)),h3 s',Iw,X2 (λh=>e h.symm),Bool.or_false]
end
end Go.Proofs.YtdilaemengjipaaGreatDoor
namespace Go.Proofs.YtdilaemengjipaaGreatDoor
set_option maxRecDepth 10000
open Go.RowKit
def C0(xs:List ByteArray):List ByteArray:=((xs.map λb:ByteArray=>b.data.toList).mergeSort λx y=>YL (x<=y)).map λl=>⟨l.toArray⟩
theorem JF(xs:List ByteArray):(C0 xs).length=xs.length:=by simp[C0]
end Go.Proofs.YtdilaemengjipaaGreatDoor
