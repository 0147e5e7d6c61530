/- A part of the proof of the statement in the last file of this claim: texts on the language of the program and on its functions. No condition. -/
import Derived.Test.YtdilaemengjipaaGreatDoorCJ3
import Derived.Test.YtdilaemengjipaaGreatDoorChecked
import Derived.Lib.SmallJoins
import Derived.IntWalk
import Derived.Shelf.Strings.Builder1
import Derived.Shelf.Strings.Builder2
import Derived.Shelf.Small.Bits
import Derived.Shelf.Strings.BuilderF
import Derived.Shelf.Strconv.Atoi
import Derived.Shelf.Strconv.Itoa0
import Derived.Shelf.Strconv.Itoa1
import Derived.Shelf.LaysM
import Derived.Shelf.Strconv.Itoa2
import Derived.Shelf.Strconv.Itoa3
import Derived.Shelf.Strconv.AtoiErrFast
import Derived.Shelf.Strconv.ParseIntEmpty
import Derived.Shelf.Strconv.AtoiFail
import Derived.Shelf.Strconv.Clone
import Derived.Shelf.Strconv.SyntaxError
import Derived.Shelf.LaysC
import Derived.Shelf.Strconv.ToError
import Derived.Shelf.Strconv.Lower
import Derived.Shelf.Strconv.ParseUint10
import Derived.Shelf.Strconv.ParseUint10Empty
import Derived.Shelf.Strconv.ParseUint10Any
import Derived.Shelf.Strconv.ParseInt10
import Derived.Shelf.Strconv.AtoiLong
import Derived.Shelf.Strconv.AtoiInnerAll
import Derived.Shelf.Strconv.RangeError
import Derived.Shelf.Strconv.ToErrorRange
import Derived.Shelf.Strconv.AtoiAll
import Derived.Shelf.Strings.Search1
import Derived.Shelf.Strings.Search2
import Derived.Shelf.Strings.Search3
import Derived.Shelf.Strings.Cut
import Derived.Shelf.Strings.Count
import Derived.Shelf.Strings.Shaped
import Derived.Shelf.Sort.Plain
import Derived.Ground.GgsProg
import Derived.Shelf.GgSortFunc.Insertion
import Derived.Shelf.GgSortFunc.InsertionK
import Derived.Shelf.GgSortFunc.Tiny
import Derived.Shelf.GgSortFunc.Compose
import Derived.Ground.GgtProg
import Derived.Shelf.GgSortMore.Stable
import Derived.Shelf.Strings.Prefix
import Derived.Shelf.Strings.Split
import Derived.Shelf.Strings.SplitShaped
import Derived.Shelf.Bits.Mul64
import Derived.Shelf.Strings.Repeat
import Derived.Shelf.Unicode.DecodeSlow
import Derived.Shelf.Slices.In.SortNone
import Derived.Shelf.Slices.In.SortNone2
import Derived.Test.YtdilaemengjipaaGreatDoorProg
import Derived.Shelf.GgSortMore.Iface
import Derived.Sort.OwnSortedInts
import Derived.Test.YtdilaemengjipaaGreatDoorCJ1
import Derived.Laws.AppendOwnNone
set_option linter.unusedVariables false
set_option linter.unusedSimpArgs false
set_option linter.unusedSectionVars false
open Go.Value renaming int->Y1
open Go.IntKind renaming i64->Y2
open Go renaming undef->Y3
open Option renaming some->YW,none->YX
open Bool renaming true->YY,false->YZ
open Decidable renaming decide->Y0
open Go.Proofs.Tryz
set_option maxHeartbeats 40000000
open List renaming mem_singleton->Wh,mem_cons->V5,not_mem_nil->V4,getElem?_eq_some_iff->VU,range->Ws,all_eq_true->V2,length_map->Wj,length_set->W5,mem_map->WI,set_eq_of_length_le->Yd,replicate->V8,getElem?_map->Wk
open Nat renaming zero_le->Ww,le_trans->Wr,le_refl->VY
open Option renaming map_eq_some_iff->Wb,bind_some->VT,bind_eq_some_iff->X9
open Go.Shelf renaming Ren->WQ
namespace Go.Proofs.YtdilaemengjipaaGreatDoor
set_option maxRecDepth 10000
open Go.RowKit
variable {KR:PV->Prop}{a a2 b b2:Int}{n:Nat}
instance :dI aG:=⟨λx q h=>by simp only[aG,Wh]at h;subst h;rfl⟩
instance :qQ aG:=⟨λx q h=>by simp only[aG,Wh]at h;subst h;rfl⟩
instance :dI iU:=⟨λx q h=>by simp only[iU,Wh]at h;subst h;rfl⟩
instance :qQ iU:=⟨λx q h=>by simp only[iU,Wh]at h;subst h;rfl⟩
instance :dI Ck:=⟨λx q h=>by simp only[Ck,Wh]at h;subst h;rfl⟩
instance :qQ Ck:=⟨λx q h=>by simp only[Ck,Wh]at h;subst h;rfl⟩
structure Y6 where
 v:Int
 deriving DecidableEq
def Y5(x:Y6):List PV:=[v8 x.v]
instance :dD Y6:=⟨Y5⟩
instance :dI Y5:=⟨λx q h=>by simp only[Y5,Wh]at h;subst h;rfl⟩
instance :qQ Y5:=⟨λx q h=>by simp only[Y5,Wh]at h;subst h;rfl⟩
structure bj where
 b:List Y6
 i:Int
 h:Int
 deriving DecidableEq
def Cr(x:bj):List PV:=[.sl (x.b.map Y5),vi x.i,vi x.h]
instance :dD bj:=⟨Cr⟩
instance :dI Cr:=⟨λx q h=>by simp only[Cr,V5,V4,or_false]at h;(repeat' (first|(rcases h with rfl|h;rfl) |(subst h;rfl)))⟩
instance :dD bl:=⟨mC⟩
instance :dI mC:=⟨λx q h=>by simp only[mC,V5,V4,or_false]at h;(repeat' (first|(rcases h with rfl|h;rfl) |(subst h;rfl)))⟩
instance :qQ mC:=⟨λx q h=>by simp only[mC,V5,V4,or_false]at h;(repeat' (first|(rcases h with rfl|h;rfl) |(subst h;rfl)))⟩
instance :dD aL:=⟨bA⟩
instance :dI bA:=⟨λx q h=>by simp only[bA,V5,V4,or_false]at h;(repeat' (first|(rcases h with rfl|h;rfl) |(subst h;rfl)))⟩
instance :dD ct:=⟨cG⟩
instance :dI cG:=⟨λx q h=>by simp only[cG,V5,V4,or_false]at h;(repeat' (first|(rcases h with rfl|h;rfl) |(subst h;rfl)))⟩
instance :qQ cG:=⟨λx q h=>by simp only[cG,V5,V4,or_false]at h;(repeat' (first|(rcases h with rfl|h;rfl) |(subst h;rfl)))⟩
instance :dD bF:=⟨cy⟩
instance :dI cy:=⟨λx q h=>by simp only[cy,V5,V4,or_false]at h;(repeat' (first|(rcases h with rfl|h;rfl) |(subst h;rfl)))⟩
instance :qQ cy:=⟨λx q h=>by simp only[cy,V5,V4,or_false]at h;(repeat' (first|(rcases h with rfl|h;rfl) |(subst h;rfl)))⟩
instance :dD bP:=⟨bo⟩
instance :dI bo:=⟨λx q h=>by simp only[bo,V5,V4,or_false]at h;(repeat' (first|(rcases h with rfl|h;rfl) |(subst h;rfl)))⟩
instance :qQ bo:=⟨λx q h=>by simp only[bo,V5,V4,or_false]at h;(repeat' (first|(rcases h with rfl|h;rfl) |(subst h;rfl)))⟩
instance :dD ah:=⟨bB⟩
instance :dI bB:=⟨λx q h=>by simp only[bB,V5,V4,or_false]at h;(repeat' (first|(rcases h with rfl|h;rfl) |(subst h;rfl)))⟩
instance :dD av:=⟨aU⟩
instance :dI aU:=⟨λx q h=>by simp only[aU,V5,V4,or_false]at h;(repeat' (first|(rcases h with rfl|h;rfl) |(subst h;rfl)))⟩
instance :qQ aU:=⟨λx q h=>by simp only[aU,V5,V4,or_false]at h;(repeat' (first|(rcases h with rfl|h;rfl) |(subst h;rfl)))⟩
instance :dD aq:=⟨aC⟩
instance :dI aC:=⟨λx q h=>by simp only[aC,V5,V4,or_false]at h;(repeat' (first|(rcases h with rfl|h;rfl) |(subst h;rfl)))⟩
instance :qQ aC:=⟨λx q h=>by simp only[aC,V5,V4,or_false]at h;(repeat' (first|(rcases h with rfl|h;rfl) |(subst h;rfl)))⟩
instance :dD br:=⟨bw⟩
instance :dI bw:=⟨λx q h=>by simp only[bw,V5,V4,or_false]at h;(repeat' (first|(rcases h with rfl|h;rfl) |(subst h;rfl)))⟩
instance :qQ bw:=⟨λx q h=>by simp only[bw,V5,V4,or_false]at h;(repeat' (first|(rcases h with rfl|h;rfl) |(subst h;rfl)))⟩
instance :dD az:=⟨aZ⟩
instance :dI aZ:=⟨λx q h=>by simp only[aZ,V5,V4,or_false]at h;(repeat' (first|(rcases h with rfl|h;rfl) |(subst h;rfl)))⟩
instance :dD ax:=⟨gK⟩
instance :dI gK:=⟨λx q h=>by simp only[gK,V5,V4,or_false]at h;(repeat' (first|(rcases h with rfl|h;rfl) |(subst h;rfl)))⟩
instance :dD bc:=⟨bK⟩
instance :dI bK:=⟨λx q h=>by simp only[bK,V5,V4,or_false]at h;(repeat' (first|(rcases h with rfl|h;rfl) |(subst h;rfl)))⟩
instance :qQ bK:=⟨λx q h=>by simp only[bK,V5,V4,or_false]at h;(repeat' (first|(rcases h with rfl|h;rfl) |(subst h;rfl)))⟩
instance :dD ba:=⟨cX⟩
instance :dI cX:=⟨λx q h=>by simp only[cX,V5,V4,or_false]at h;(repeat' (first|(rcases h with rfl|h;rfl) |(subst h;rfl)))⟩
instance :dD aF:=⟨lM⟩
instance :dI lM:=⟨λx q h=>by simp only[lM,V5,V4,or_false]at h;(repeat' (first|(rcases h with rfl|h;rfl) |(subst h;rfl)))⟩
instance :dD Hy:=⟨wR⟩
instance :dI wR:=⟨λx q h=>by simp only[wR,V5,V4,or_false]at h;(repeat' (first|(rcases h with rfl|h;rfl) |(subst h;rfl)))⟩
instance :qQ wR:=⟨λx q h=>by simp only[wR,V5,V4,or_false]at h;(repeat' (first|(rcases h with rfl|h;rfl) |(subst h;rfl)))⟩
instance :dD K1:=⟨zv⟩
instance :dI zv:=⟨λx q h=>by simp only[zv,V5,V4,or_false]at h;(repeat' (first|(rcases h with rfl|h;rfl) |(subst h;rfl)))⟩
instance :dD K5:=⟨zw⟩
instance :dI zw:=⟨λx q h=>by simp only[zw,V5,V4,or_false]at h;(repeat' (first|(rcases h with rfl|h;rfl) |(subst h;rfl)))⟩
instance :dD MZ:=⟨x7⟩
instance :dI x7:=⟨λx q h=>by simp only[x7,V5,V4,or_false]at h;(repeat' (first|(rcases h with rfl|h;rfl) |(subst h;rfl)))⟩
instance :dD Rf:=⟨xa⟩
instance :dI xa:=⟨λx q h=>by simp only[xa,V5,V4,or_false]at h;(repeat' (first|(rcases h with rfl|h;rfl) |(subst h;rfl)))⟩
instance :qQ xa:=⟨λx q h=>by simp only[xa,V5,V4,or_false]at h;(repeat' (first|(rcases h with rfl|h;rfl) |(subst h;rfl)))⟩
instance :dD MY:=⟨x5⟩
instance :dI x5:=⟨λx q h=>by simp only[x5,V5,V4,or_false]at h;(repeat' (first|(rcases h with rfl|h;rfl) |(subst h;rfl)))⟩
attribute [go_sem] aG iU Ck Y5 Cr mC bA cG cy bo bB aU aC bw aZ gK bK cX lM wR zv zw x7 xa x5 dD.c
theorem IA:Cy prog (n+3) 46 [vi a,vi b] [vi a2,vi b2]=YW (Y0 ((⟨a,b⟩:av)=(⟨a2,b2⟩:av))):=by
 simp only[Cy,Tryz.underlying3,Tryz.underlying46,KE,Program.fieldsOf,go_sem];simp[KE,tq3]
 try rfl
@[go_sem] theorem ZeJ:u7 prog .eql 46 [vi a,vi b] [vi a2,vi b2] KR=KR (vb (Y0 ((⟨a,b⟩:av)=(⟨a2,b2⟩:av)))):=by unfold u7;rw[show(10000:Nat)=9997+3 from rfl,IA,Tryz.underlying46];simp only[KE,true_and]
@[go_sem] theorem ZfG:u7 prog .neq 46 [vi a,vi b] [vi a2,vi b2] KR=KR (vb (!decide ((⟨a,b⟩:av)=(⟨a2,b2⟩:av)))):=by unfold u7;rw[show(10000:Nat)=9997+3 from rfl,IA,Tryz.underlying46];simp only[KE,true_and]
theorem Ay{a b c d a2 b2 c2 d2:Int}:Cy prog (n+3) 147 [vi a,vi b,vi c,vi d] [vi a2,vi b2,vi c2,vi d2]=YW (Y0 ((⟨a,⟨b,c⟩,d⟩:aq)=(⟨a2,⟨b2,c2⟩,d2⟩:aq))):=by
 simp only[Cy,Tryz.underlying3,Tryz.underlying147,Ol,Tryz.underlying46,KE,Program.fieldsOf,go_sem];simp[Ol,KE,tq3]
 try rfl
@[go_sem] theorem ZbZ{a b c d a2 b2 c2 d2:Int}:u7 prog .eql 147 [vi a,vi b,vi c,vi d] [vi a2,vi b2,vi c2,vi d2] KR=KR (vb (Y0 ((⟨a,⟨b,c⟩,d⟩:aq)=(⟨a2,⟨b2,c2⟩,d2⟩:aq)))):=by unfold u7;rw[show(10000:Nat)=9997+3 from rfl,Ay,Tryz.underlying147];simp only[Ol,true_and]
@[go_sem] theorem Zce{a b c d a2 b2 c2 d2:Int}:u7 prog .neq 147 [vi a,vi b,vi c,vi d] [vi a2,vi b2,vi c2,vi d2] KR=KR (vb (!decide ((⟨a,⟨b,c⟩,d⟩:aq)=(⟨a2,⟨b2,c2⟩,d2⟩:aq)))):=by unfold u7;rw[show(10000:Nat)=9997+3 from rfl,Ay,Tryz.underlying147];simp only[Ol,true_and]
end Go.Proofs.YtdilaemengjipaaGreatDoor
namespace Go.Proofs.YtdilaemengjipaaGreatDoor
set_option maxRecDepth 10000
open Go.ChangeShapes Go.WideShapes Go.ChangeAt Go.RowKit Go.Deep
theorem decP_b8:Zcp prog 5 Y5 (λx=>0<=x.v/\x.v<=255):=by
 intro H enc w base spare held fuel cs x h;obtain⟨n,rfl,_,hw⟩:=DataW.trod_int Tryz.underlying5 h;refine⟨⟨n⟩,wE rfl (.v _ rfl),?_⟩;simp[Lit.wf,IntKind.min,IntKind.max,IntKind.signed,IntKind.bits]at hw
 exact⟨by show 0<=n;omega,by show n<=255;omega⟩
theorem cells_b8:prog.cellsOf 5=1:=by kernel_rfl
end Go.Proofs.YtdilaemengjipaaGreatDoor
namespace Go.Proofs.YtdilaemengjipaaGreatDoor
set_option maxRecDepth 10000
open Go.RowKit
variable {KA:PV->Mem->Prop}{KR:PV->Prop}{P:Program}{Q:Exit->List PV->Mem->Prop}{T':TK}{a a2 b b2 e e2:Int}{args cs ds ps t zc:List PV}{d d2 s:ByteArray}{draw io:Bool}{es:List (List PV)}{fn:Func}{i j k k' l n n0 wd ν:Nat}{m m' m0 m1:Mem}{ops:Array Oper}{p:Prop}{rs:List (Option Nat)}{α β γ ο:Type}{ρ:Nat->Option Nat}{σ:Nat->Nat}{A B:Option α}{F:Unit->Option α}{G:ο->Option β}{J:Option (ο⊕α)}{K:α->Option β}{M:ο->Mem}{T:ο->List PV}{body:Int->Option (Int⊕ο)}{f:α->List PV}{r:β}{x:Option (Int⊕ο)}
theorem aR{n:Int}(h:-9223372036854775808<=n/\n<=9223372036854775807):aM n=n:=IntWalk.i64_in n h
theorem bG(hi:i<n)(hn:n<=1152921504606846976):aM ((i:Int)+1)=((i+1:Nat):Int):=by
 rw[aR Yn];omega
theorem aP{xs:List α}:aB xs (i:Int)=xs[i]?:=by
 rfl
theorem ku{b:Bool}(h:b=YY):cr b=YW ():=by subst h;rfl
def uf{A α ο:Type}(F:Nat->A->α->Option (A⊕ο))(E:A->Option ο):Nat->List α->A->Option ο
 |_,[],a=>E a
 |i,x::xs,a=>(F i a x).bind (bh (λa'=>uf F E (i+1) xs a') YW)
theorem EU{A α σ ο:Type}{xs:List α}{body:σ->Option (σ⊕ο)}{mk:A->Int->σ}{F:Nat->A->α->Option (A⊕ο)}{E:A->Option ο}
 (h1:∀a (i:Nat) x,xs[i]?=YW x->body (mk a i)=(F i a x).bind (bh (λa'=>YW (.inl (mk a' ((i+1:Nat):Int)))) (λr=>YW (.inr r))))
 (h2:∀a,body (mk a (xs.length:Int))=(E a).bind λr=>YW (.inr r)):
 ∀(ys:List α) (i:Nat) (N:Nat) (a:A),xs.drop i=ys->i<=xs.length->ys.length<N->aE body N (mk a i)=uf F E i ys a
 | [],i,0,a,_,_,hN=>Yn
 | [],i,N+1,a,hd,hi,hN=>by
  have:i=xs.length:=by grind
  subst this;simp only[aE,uf,h2]
  cases E a<;>rfl
 |y::ys,i,0,a,_,_,hN=>Yn
 |y::ys,i,N+1,a,hd,hi,hN=>by
  have hy:xs[i]?=YW y:=by
   have:=congrArg (λl=>l[0]?) hd
   grind
  have bX:i<xs.length:=(VU.1 hy).1;have xg:xs.drop (i+1)=ys:=by
   have:=congrArg (List.drop 1) hd
   simpa[List.drop_drop]using this
  simp only[aE,uf,h1 a i y hy]
  cases hF:F i a y with
  |none=>rfl
  |some o=>
   cases o with
   |inl a'=>
    show aE body N (mk a' ((i+1:Nat):Int))=uf F E (i+1) ys a';exact EU h1 h2 ys (i+1) N a' xg bX Yv
   |inr r=>rfl
theorem rf{A α σ ο:Type}{xs:List α}{body:σ->Option (σ⊕ο)}{N:Nat}(mk:A->Int->σ)(F:Nat->A->α->Option (A⊕ο))(E:A->Option ο)
 (h1:∀a (i:Nat) x,xs[i]?=YW x->body (mk a i)=(F i a x).bind (bh (λa'=>YW (.inl (mk a' ((i+1:Nat):Int)))) (λr=>YW (.inr r))))
 (h2:∀a,body (mk a (xs.length:Int))=(E a).bind λr=>YW (.inr r)) (hN:xs.length<N) (a:A):aE body N (mk a 0)=uf F E 0 xs a:=
 EU h1 h2 xs 0 N a rfl (Ww _) hN
theorem vF{σ ο:Type}{body:σ->Option (σ⊕ο)}(I:Nat->σ->Prop)(hI:∀k s,I k s->∃o,body s=YW o/\∀s',o=.inl s'->∃k',k'<k/\I k' s'):∀(N k:Nat) (s:σ),I k s->k<N->∃o,aE body N s=YW o
 |0,k,s,_,hN=>Yn
 |N+1,k,s,h,hN=>by
  obtain⟨o,hb,hn⟩:=hI k s h;simp only[aE,hb]
  cases o with
  |inr r=>simp
  |inl s'=>
   obtain⟨k',hk,hi⟩:=hn s' rfl;exact vF I hI N k' s' hi Yn
theorem yy(hn:n<NN)(h:∀i:Nat,i<n->∃o,body (i:Int)=YW o/\∀s',o=.inl s'->s'=((i+1:Nat):Int))(he:∃r,body (n:Int)=YW (.inr r)):∃o,aE body NN 0=YW o:=by
 refine vF (λk s=>∃i:Nat,i+k=n/\s=(i:Int)) ?_ NN n 0 ⟨0,Yn,rfl⟩ hn
 rintro k s ⟨i,hi,rfl⟩
 rcases Nat.lt_or_ge i n with bX|ze
 ·obtain⟨o,ho,hs⟩:=h i bX
  exact⟨o,ho,λs' e=>⟨k-1,Yn,i+1,Yn,hs s' e⟩⟩
 grind
theorem Od(e:x=YW (.inl ((i+1:Nat):Int))):∃o,x=YW o/\∀s',o=.inl s'->s'=((i+1:Nat):Int):=⟨_,e,by simp⟩
theorem MP{r:ο}(e:x=YW (.inr r)):∃o,x=YW o/\∀s',o=.inl s'->s'=((i+1:Nat):Int):=⟨_,e,by simp⟩
theorem oG{c:Nat->Bool}{r e:ο}(h1:∀i:Nat,i<n->(∀j,j<i->c j=YY)->body (i:Int)=YW (if c i=YY then .inl ((i+1:Nat):Int)else .inr r))(h2:(∀j,j<n->c j=YY)->body (n:Int)=YW (.inr e))(hN:n<NN):
 aE body NN 0=YW (if(Ws n).all c=YY then e else r):=by
 have key:∀(k i N:Nat),i+k=n->k<N->(∀j,j<i->c j=YY)->aE body N (i:Int)=YW (if(Ws n).all c=YY then e else r):=by
  intro k
  induction k with
  |zero=>
   intro i N hi hk hj
   cases N with
   |zero=>omega
   |succ N=>
    have:i=n:=Yn;subst this;simp only[aE,h2 hj]
    simp_all
  |succ k ih=>
   intro i N hi hk hj
   cases N with
   |zero=>omega
   |succ N=>
    simp only[aE,h1 i Yn hj]
    by_cases hc:c i=YY
    ·rw[if_pos hc]
     exact ih (i+1) N Yn Yn (λj CM=>by
      grind)
    grind
 grind
theorem Ql(xs:List α)(p:α->Bool)(c:Nat->Bool)(h:∀i (hi:i<xs.length),c i=p xs[i]):(Ws xs.length).all c=xs.all p:=by
 rw[Bool.eq_iff_iff,V2,V2];constructor
 ·intro H x hx
  obtain⟨i,hi,rfl⟩:=List.getElem_of_mem hx
  simp_all
 simp_all
theorem tS{xs:List α}{p:α->Bool}{r e:ο}(h1:∀i (hi:i<xs.length),body (i:Int)=YW (if p xs[i]=YY then .inr r else .inl ((i+1:Nat):Int)))(h2:body (xs.length:Int)=YW (.inr e))(hN:xs.length<NN):
 aE body NN 0=YW (if xs.any p=YY then r else e):=by
 rw[oG (n:=xs.length) (c:=λi=>(xs[i]?.map λx=>!p x).getD YY) (r:=r) (e:=e) (λi hi _=>?_) (λ_=>h2) hN,Ql xs (λx=>!p x) _ (λi hi=>by grind)]
 all_goals grind
def A8(t:List PV)(m:Mem):Option Unit:=YW ()
theorem rD.trans{t t1 t2:List PV}{m m1 m2:Mem}(h:rD n0 t m t1 m1)(k:rD n0 t1 m1 t2 m2):rD n0 t m t2 m2:=by
 induction h with
 |one h=>exact .two h k
 |two h h' ih=>exact .two h (ih k)
theorem Za6{t T:List PV}{m M:Mem}
 (H:((A8 T M).bind F).bind K=YW r) (hc:rD n0 t m T M) (hk:(F ()).bind K=YW r->qP P n0 (.region i ops draw) Q T M):qP P n0 (.region i ops draw) Q t m:=by
 rcases hk H with h|⟨t1,m1,h1,h2⟩
 ·exact .inr ⟨T,M,hc,h⟩
 ·exact .inr ⟨t1,m1,hc.trans h1,h2⟩
def oe(wd:Nat)(fl:List Nat):Option Unit:=YW ()
theorem TN{fl:List Nat}{id:Nat}{ops:List Oper}
 (H:((oe wd fl).bind F).bind K=YW r) (I7:Y0 (0<wd)=YY) (h1:P.follows .mixedOrders=YY) (hk:(F ()).bind K=YW r->mg P wd m.length fl ops.toArray (O2 ops (Q .normal)) 0 ops [] t m):qP P n0 (.region id ops.toArray YY) Q t m:=Qj I7 h1 (hk H)
theorem OV[dI f]{xs:List α}{x:α}{T:TK}(hm:look m k=YW ⟨T,k',(xs.map f).set n cs⟩)(hc:f x=cs)(hd:dropped (fV rs) m' k):oW (fV rs) m m' (.ms k) (.sl ((xs.set n x).map f)):=by
 subst hc;refine Ik (f:=f) (xs:=xs.set n x) (T:=T) (k':=k') ?_ hd
 simp_all
theorem RQ[dI f]{xs:List α}{k k' A B:Nat}{T:TK}(hm:look m k=YW ⟨T,k',xs.map f⟩)(hA:A=a.toNat)(hB:B=b.toNat)(hd:dropped (fV rs) m' k):oW (fV rs) m m' (.ss k A B) (.sl ((cM xs a b).map f)):=by
 subst hA hB;have:=oW.fss (ρ:=fV rs) (m:=m) (m':=m') k a.toNat b.toNat ⟨T,k',xs.map f⟩ (jt.1 hm) yO hd
 simpa only[yd,yZ,cM]using this
def wQ{α:Type}(xs:List α)(i:Int):Option α:=aB xs i
theorem rgH{xs:List α}{i:Int}{F:α->Option β}{K:β->Option γ}{r:γ}(H:((wQ xs i).bind F).bind K=YW r):∃x,aB xs i=YW x/\(F x).bind K=YW r:=BP H
theorem Gh{xs:List α}{x:α}{i:Int}(h:aB xs i=YW x):((xs.map f).set i.toNat cs)[i.toNat]?=YW cs:=by
 rw[List.getElem?_set_self];have:=(VU.1 (nY h).2).1
 simp_all
theorem SM[dD α]{xs:List α}{x:α}{T:TypeId}{i:Int}{k:IntKind}(h:aB xs i=YW x)(hm:look m l=YW ⟨T',k',(xs.map dD.c).set n cs⟩)(hp:0<ke P T)(hk:k'=ke P T)(hK:KR (.be l i.toNat 0)):cR P m T (.ms l) (.v (.int k i)) KR:=by
 obtain⟨h1,h2,h3⟩:=F7 h;obtain⟨e,hu,he⟩:=tK hp;rw[he]at hk
 simp only[cR,hu,mF,hm,Wj,W5]
 simp_all
attribute [go_sem] W5 List.set_set
def D9{α:Type}(x:α)(t:α->List PV)(m:α->Mem):Option α:=YW x
theorem TP{ξ α β:Type}{x:ξ}{T:ξ->List PV}{M:ξ->Mem}{F:ξ->Option α}{K:α->Option β}{r:β}
 (H:((D9 x T M).bind F).bind K=YW r) (hc:rD n0 t m (T x) (M x)) (hk:∀z,(F z).bind K=YW r->qP P n0 (.region i ops draw) Q (T z) (M z)):qP P n0 (.region i ops draw) Q t m:=by
 rcases hk x H with h|⟨t1,m1,h1,h2⟩
 ·exact .inr ⟨T x,M x,hc,h⟩
 ·exact .inr ⟨t1,m1,hc.trans h1,h2⟩
def bq(ρ:List Nat):Option Unit:=YW ()
theorem Vj{R α β:Type}{ρ:List Nat}{A:Option R}[C:CT P A]{F:Unit->Option α}{G:R->Option α}{K:α->Option β}{r:β}{f:FuncId}
 (H:((bq ρ).bind F).bind K=YW r) (hF:F ()=A.bind G) (hf:C.f=f) (hio:io=YY) (LD:ps=C.args.map (yM (sig ρ ν))) (hq:∀q∈C.args,ta YZ q/\Gp C.m0.length q=YY) (hn:ρ.Nodup) (vz:pq (sig ρ ν) m C.m0.length ρ C.m0)
 (hlen:∀y,C.m0.length<=(C.mem y).length/\(C.mem y).length-C.m0.length<=wd) (hm:∀y,∀mb,YW mb∈C.mem y->∀cs∈mb.es,∀p∈cs,eK YZ p) (hg:∀y,qR YZ (C.res y))
 (hk:∀y,A=YW y->(G y).bind K=YW r->KA (yN (sig ρ ν) (C.res y)) (jQ (sig ρ ν) ν ((C.mem y).drop ρ.length) (oU (sig ρ ν) ρ (C.mem y) m))):pH P io wd ν f ps m KA:=by
 have H':(F ()).bind K=YW r:=H;rw[hF]at H'
 obtain⟨y,hy,H2⟩:=BP H';subst hf;exact .inr ⟨ρ,C.m0,C.args,C.res y,C.mem y,.inl hio,C.ok hy,(hlen y).1,(hlen y).2,LD,hq,hn,vz,hm y,hg y,hk y hy H2⟩
theorem Ry{R α β:Type}{ρ:List Nat}{A:Option R}[C:CT P A]{F:Unit->Option α}{G:R->Option α}{K:α->Option β}{r:β}{f:FuncId}{KA:List Nat->PV->Mem->Prop}
 (H:((bq ρ).bind F).bind K=YW r) (hF:F ()=A.bind G) (hf:C.f=f) (LD:ps=C.args.map (yM (sig ρ ν))) (hq:∀q∈C.args,ta YZ q/\Gp C.m0.length q=YY) (hn:ρ.Nodup) (vz:pq (sig ρ ν) m C.m0.length ρ C.m0)
 (hlen:∀y,C.m0.length<=(C.mem y).length/\(C.mem y).length-C.m0.length<=wd) (hm:∀y,∀mb,YW mb∈C.mem y->∀cs∈mb.es,∀p∈cs,eK YZ p) (hg:∀y,qR YZ (C.res y))
 (hk:∀y,A=YW y->(G y).bind K=YW r->KA ρ (yN (sig ρ ν) (C.res y)) (jQ (sig ρ ν) ν ((C.mem y).drop ρ.length) (oU (sig ρ ν) ρ (C.mem y) m))):pIO P wd ν f ps m KA:=by
 have H':(F ()).bind K=YW r:=H;rw[hF]at H'
 obtain⟨y,hy,H2⟩:=BP H';subst hf;exact⟨ρ,C.m0,C.args,C.res y,C.mem y,C.ok hy,(hlen y).1,(hlen y).2,LD,hq,hn,vz,hm y,hg y,hk y hy H2⟩
def Q6:Prop:=True
theorem ZfX{ρ:List Nat}(H:((bq ρ).bind F).bind K=YW r):Q6:=trivial
theorem ZhU{f:FuncId}(h:Q6)(hk:pH P io wd ν f ps m KA):pH P io wd ν f ps m KA:=hk
theorem ZfY{f:FuncId}{KA:List Nat->PV->Mem->Prop}(h:Q6)(hk:pIO P wd ν f ps m KA):pIO P wd ν f ps m KA:=hk
theorem LJ:pq σ m n [] []:=trivial
theorem Td{p:PV}(h:sq p=YY):xp n p=true:=by
 cases p with
 |fn f cs=>
  simp only[sq,V2]at h
  simp only[xp,V2];intro c hc;have:=h c hc
  cases c<;>simp_all[uG,Bf]
 |_=>simp_all[sq,uG,xp,Bf]
theorem LI[hf:dI f]{T:TK}{xs:List α}{ρ:List Nat}(hl:look m l=YW ⟨T,k,xs.map f⟩)(h:pq σ m n ρ m0):pq σ m n (l::ρ) (YW ⟨T,k,xs.map f⟩::m0):=by
 refine⟨?_,λcs so p hp=>?_,h⟩
 ·rw[jt.1 hl]
  simp only[nb,Fk]
 ·obtain⟨x,_,rfl⟩:=WI.1 so
  exact⟨tP (hf.h x p hp),Td (hf.h x p hp)⟩
theorem LK{T:TK}{cs qy:List PV}{ρ:List Nat}(hl:look m l=YW ⟨T,k,[qy]⟩)(hc:qy=cs.map (sa σ))(hg:∀p∈cs,eK YZ p/\xp n p=YY)(h:pq σ m n ρ m0):pq σ m n (l::ρ) (YW ⟨T,k,[cs]⟩::m0):=by
 subst hc;refine⟨jt.1 hl,λds hds p hp=>?_,h⟩
 simp_all
@[irreducible] def jn{ο α:Type}(i j:Nat)(J:Option (ο⊕α))(T:ο->List PV)(M:ο->Mem):Option (ο⊕α):=J
def hdC:Code->Bool
 |.region _ _ _=>YY
 |.loop _=>YY
 |.seq a _=>hdC a
 |.block _ c=>hdC c
 |_=>YZ
def idC:Code->Nat
 |.region i _ _=>i
 |.loop c=>idC c
 |.seq a _=>idC a
 |.block _ c=>idC c
 |_=>0
theorem Dy{P:Program}{n0:Nat}:∀(c:Code),hdC c=YY->∀{Q:Exit->List PV->Mem->Prop} {t T:List PV} {m M:Mem},rD n0 t m T M->qP P n0 c Q T M->qP P n0 c Q t m
 |.region i ops draw,_,Q,t,T,m,M,hc,h=>by
  rcases h with h|⟨t1,m1,h1,h2⟩
  ·exact .inr ⟨T,M,hc,h⟩
  ·exact .inr ⟨t1,m1,hc.trans h1,h2⟩
 |.loop c,_,Q,t,T,m,M,hc,h=>by
  obtain⟨I,n,t0,m0,h1,h2⟩:=h;exact⟨I,n,t0,m0,hc.trans h1,h2⟩
 |.seq a b,hd,Q,t,T,m,M,hc,h=>Dy a hd hc h
 |.block i c,hd,Q,t,T,m,M,hc,h=>Dy c hd hc h
theorem TQ{a b:Code}{F:α->Option β}{K:β->Option γ}{r:γ}
 (H:((jn i j J T M).bind (bh G F)).bind K=YW r) (hd:hdC b=YY) (hi:(idC a==i&&idC b==j)=YY)
 (h1:∀K':List PV->Mem->Prop,(∀o t' m',(G o).bind K=YW r->rD n0 t' m' (T o) (M o)->K' t' m')->J.bind (bh (λo=>(G o).bind K) (λv=>(F v).bind K))=YW r->qP P n0 a (rO K' Q) t m)
 (h2:∀o,(G o).bind K=YW r->qP P n0 b Q (T o) (M o)):qP P n0 (.seq a b) Q t m:=by
 unfold jn at H
 refine h1 (λt m=>qP P n0 b Q t m) (λo t' m' h hc=>Dy b hd hc (h2 o h)) ?_
 grind
theorem jnX{s:ο}{F:ο->Option β}{Kp:List PV->Mem->Prop}(H:(YW (Sum.inl s)).bind (bh F K)=YW r)(hL:∀o t' m',F o=YW r->rD n0 t' m' (T o) (M o)->Kp t' m')(hc:rD n0 t m (T s) (M s)):Kp t m:=hL s t m H hc
def Zed:Prop:=True
theorem jnH{G:(ο⊕α)->Option β}{K:β->Option γ}{r:γ}(H:((jn i j J T M).bind G).bind K=YW r):Zed:=trivial
theorem jnS{a b:Code}(h:Zed)(hk:qP P n0 (.seq a b) Q t m):qP P n0 (.seq a b) Q t m:=hk
theorem KC{K K2:List PV->Mem->Prop}:rO K (rO K2 Q)=rO K Q:=by
 funext e t m
 cases e<;>rfl
theorem Qg{a b c:Code}(h:qP P n0 (.seq (.seq a b) c) Q t m):qP P n0 (.seq a (.seq b c)) Q t m:=by
 have e:qP P n0 (.seq (.seq a b) c) Q t m=qP P n0 a (rO (λt m=>qP P n0 b (rO (λt m=>qP P n0 c Q t m) Q) t m) (rO (λt m=>qP P n0 c Q t m) Q)) t m:=by rfl
 rw[e,KC]at h
 simp only[qP];exact h
theorem Za7{a b c:Code}{F:α->Option β}{K:β->Option γ}{r:γ}
 (H:((jn i j J T M).bind (bh G F)).bind K=YW r) (hd:hdC c=YY) (hi:(idC a==i&&idC c==j)=YY)
 (h1:∀K':List PV->Mem->Prop,(∀o t' m',(G o).bind K=YW r->rD n0 t' m' (T o) (M o)->K' t' m')->J.bind (bh (λo=>(G o).bind K) (λv=>(F v).bind K))=YW r->qP P n0 (.seq a b) (rO K' Q) t m)
 (h2:∀o,(G o).bind K=YW r->qP P n0 c Q (T o) (M o)):qP P n0 (.seq a (.seq b c)) Q t m:=Qg (TQ H hd hi h1 h2)
inductive vf:PV->PV->Prop
 |r (p:PV):vf p p
 |nil (c:Nat):vf (.v (.slice YX 0 c)) (.sl [])
 |un (p:PV):vf p .un
inductive AZ:List PV->List PV->Prop
 |n:AZ [] []
 |c {p q:PV} {ps qs:List PV} (h:vf p q) (k:AZ ps qs):AZ (p::ps) (q::qs)
inductive BW:PV->PV->Prop
 |c {p q:PV} (h:vf p q):BW p q
 |ag {cs ds:List PV} (h:AZ cs ds):BW (.ag cs) (.ag ds)
inductive AY:List PV->List PV->Prop
 |n:AY [] []
 |c {p q:PV} {ps qs:List PV} (h:BW p q) (k:AY ps qs):AY (p::ps) (q::qs)
theorem vf.rep{w:World}{E:Env}{p q:PV}{x:Value}(h:vf p q)(hr:dG w E p x):dG w E q x:=by
 cases h with
 |r=>omega
 |nil c=>
  cases hr with
  |c h=>cases h with
   |v _ _=>exact .c (.nil YX c)
 |un=>exact .c (.un x)
theorem AZ.len(h:AZ cs ds):cs.length=ds.length:=by
 induction h with
 |n=>rfl
 |c _ _ ih=>grind
theorem AZ.get(h:AZ cs ds):∀(j:Nat) (q:PV),ds[j]?=YW q->∃p,cs[j]?=YW p/\vf p q:=by
 induction h with
 |n=>simp
 |c h k ih=>
  grind
theorem BW.rep{w:World}{E:Env}{p q:PV}{x:Value}(h:BW p q)(hr:dG w E p x):dG w E q x:=by
 cases h with
 |c h=>exact h.rep hr
 |ag h=>
  obtain⟨vs,rfl,hl,h1,hc⟩:=dG.qx hr;exact .ag _ vs (by rw[hl,h.len]) h1 λj p y hp hy=>by
   obtain⟨p',SE,hs⟩:=h.get j p hp;exact hs.rep (hc j p' y SE hy)
theorem AY.len(h:AY cs ds):cs.length=ds.length:=by
 induction h with
 |n=>rfl
 |c _ _ ih=>grind
theorem AY.get(h:AY cs ds):∀(j:Nat) (q:PV),ds[j]?=YW q->∃p,cs[j]?=YW p/\BW p q:=by
 induction h with
 |n=>simp
 |c h k ih=>
  grind
theorem fa.Zf6{f:FuncId}{ps qs:List PV}{r:PV}(h:fa P f qs m0 r m1)(hs:AY ps qs):fa P f ps m0 r m1:=by
 intro S β w vs ω hok hl ha;refine h S β w vs ω hok (by rw[hl,hs.len]) λi q hq=>?_
 obtain⟨p,hp,hv⟩:=hs.get i q hq;obtain⟨x,hx,hr⟩:=ha i p hp;exact⟨x,hx,hv.rep hr⟩
def Zaj:PV->Bool
 |.ms _=>YY
 |p=>sq p
def Zb8:PV->Bool
 |.ag cs=>cs.all Zaj
 |.tu _=>YZ
 |p=>Zaj p
theorem IL{p:PV}(h:Zaj p=YY):eK YZ p:=by
 cases p with
 |ms l=>simp[eK]
 |_=>exact tP h
theorem ZcU(h:cs.all Zaj=YY):qR YZ (.ag cs):=λc hc=>IL (V2.1 h c hc)
theorem ZcV(h:ps.all Zb8=YY):qR YZ (.tu ps):=by
 intro c hc;have:=V2.1 h c hc
 cases c with
 |ag cs=>exact λd hd=>IL (V2.1 this d hd)
 |tu vs=>simp[Zb8]at this
 |fn f cs=>exact tP (c:=.fn f cs) this
 |_=>simp[ta,eK]
theorem Il{c:Nat}:oW ρ m m' (.v (.slice YX 0 c)) (.sl []):=.NK c
theorem Ki{rs rr:List (Option Nat)}{T:TK}{mm:Mem}(hk:Y0 (0<k)=YY)(h:oh rs m m' rr mm):oh rs m m' (YX::rr) (YW ⟨T,k,[]⟩::mm):=⟨⟨rfl,Yh hk⟩,h⟩
theorem Zdn:vL 0 i rs m=true:=rfl
theorem Zdo{mb:MB}(h:vL n (i+1) rs m=YY):vL (n+1) i (YW i::rs) (YW mb::m)=true:=by simp[vL,h]
theorem Zdp(h:vL n (i+1) rs m=YY):vL (n+1) i (YX::rs) (YX::m)=true:=by simpa[vL]using h
theorem rH{b:Bool}{T:TK}(h:∀cs∈es,∀p∈cs,eK b p):∀mb,YW mb∈([YW ⟨T,k,es⟩]:Mem)->∀cs∈mb.es,∀p∈cs,eK b p:=by
 grind
theorem Nw{b:Bool}(h2:∀mb,YW mb∈m->∀cs∈mb.es,∀p∈cs,eK b p):∀mb,YW mb∈((YX:Option MB)::m)->∀cs∈mb.es,∀p∈cs,eK b p:=by
 grind
theorem Zfg{T:TK}{b:Bool}:∀mb,YW mb∈([YW ⟨T,k,[]⟩]:Mem)->∀cs∈mb.es,∀p∈cs,eK b p:=rH Yq
theorem Zec(h:(YX:Option α).bind K=YW r):False:=by cases h
theorem EJ{c c2:ByteArray}:Cy prog (n+3) 42 [vi a,vi b,vs c] [vi a2,vi b2,vs c2]=YW (Y0 ((⟨a,b,c⟩:bl)=(⟨a2,b2,c2⟩:bl))):=by
 simp only[Cy,Tryz.underlying3,Tryz.underlying42,ZbI,Tryz.underlying9,Program.fieldsOf,go_sem];simp[ZbI,tq3,tq9];rw[baB];rfl
@[go_sem] theorem Zd3{c c2:ByteArray}:u7 prog .eql 42 [vi a,vi b,vs c] [vi a2,vi b2,vs c2] KR=KR (vb (Y0 ((⟨a,b,c⟩:bl)=(⟨a2,b2,c2⟩:bl)))):=by unfold u7;rw[show(10000:Nat)=9997+3 from rfl,EJ,Tryz.underlying42];simp only[ZbI,true_and]
@[go_sem] theorem Zd4{c c2:ByteArray}:u7 prog .neq 42 [vi a,vi b,vs c] [vi a2,vi b2,vs c2] KR=KR (vb (!decide ((⟨a,b,c⟩:bl)=(⟨a2,b2,c2⟩:bl)))):=by unfold u7;rw[show(10000:Nat)=9997+3 from rfl,EJ,Tryz.underlying42];simp only[ZbI,true_and]
theorem Nl{a a2:ByteArray}{b b2:ByteArray}{c c2:Int}{d d2:Int}{f f2:Int}:Cy prog (n+3) 144 [vs a,vs b,vi c,vi d,vi e,vi f] [vs a2,vs b2,vi c2,vi d2,vi e2,vi f2]=YW (Y0 ((⟨a,b,c,d,e,f⟩:bP)=(⟨a2,b2,c2,d2,e2,f2⟩:bP))):=by
 simp only[Cy,Tryz.underlying3,Tryz.underlying144,Oj,Tryz.underlying9,Program.fieldsOf,go_sem];simp[Oj,tq3,tq9,baB];rfl
@[go_sem] theorem Zgm{a a2:ByteArray}{b b2:ByteArray}{c c2:Int}{d d2:Int}{f f2:Int}:u7 prog .eql 144 [vs a,vs b,vi c,vi d,vi e,vi f] [vs a2,vs b2,vi c2,vi d2,vi e2,vi f2] KR=KR (vb (Y0 ((⟨a,b,c,d,e,f⟩:bP)=(⟨a2,b2,c2,d2,e2,f2⟩:bP)))):=by unfold u7;rw[show(10000:Nat)=9997+3 from rfl,Nl,Tryz.underlying144];simp only[Oj,true_and]
@[go_sem] theorem Zgo{a a2:ByteArray}{b b2:ByteArray}{c c2:Int}{d d2:Int}{f f2:Int}:u7 prog .neq 144 [vs a,vs b,vi c,vi d,vi e,vi f] [vs a2,vs b2,vi c2,vi d2,vi e2,vi f2] KR=KR (vb (!decide ((⟨a,b,c,d,e,f⟩:bP)=(⟨a2,b2,c2,d2,e2,f2⟩:bP)))):=by unfold u7;rw[show(10000:Nat)=9997+3 from rfl,Nl,Tryz.underlying144];simp only[Oj,true_and]
theorem Iz{c c2:Int}{f f2:Int}:Cy prog (n+3) 151 [vi a,vi b,vi c,vs d,vi e,vi f] [vi a2,vi b2,vi c2,vs d2,vi e2,vi f2]=YW (Y0 ((⟨a,b,c,d,⟨e,f⟩⟩:br)=(⟨a2,b2,c2,d2,⟨e2,f2⟩⟩:br))):=by
 simp only[Cy,Tryz.underlying3,Tryz.underlying151,Om,Tryz.underlying46,KE,Tryz.underlying9,Program.fieldsOf,go_sem];simp[Om,KE,tq3,tq9,baB];rfl
@[go_sem] theorem ZeI{c c2:Int}{f f2:Int}:u7 prog .eql 151 [vi a,vi b,vi c,vs d,vi e,vi f] [vi a2,vi b2,vi c2,vs d2,vi e2,vi f2] KR=KR (vb (Y0 ((⟨a,b,c,d,⟨e,f⟩⟩:br)=(⟨a2,b2,c2,d2,⟨e2,f2⟩⟩:br)))):=by unfold u7;rw[show(10000:Nat)=9997+3 from rfl,Iz,Tryz.underlying151];simp only[Om,true_and]
@[go_sem] theorem ZfF{c c2:Int}{f f2:Int}:u7 prog .neq 151 [vi a,vi b,vi c,vs d,vi e,vi f] [vi a2,vi b2,vi c2,vs d2,vi e2,vi f2] KR=KR (vb (!decide ((⟨a,b,c,d,⟨e,f⟩⟩:br)=(⟨a2,b2,c2,d2,⟨e2,f2⟩⟩:br)))):=by unfold u7;rw[show(10000:Nat)=9997+3 from rfl,Iz,Tryz.underlying151];simp only[Om,true_and]
set_option maxRecDepth 4000
theorem RO{f:FuncId}(h:rG ρ m m' cs ds):oW ρ m m' (.fn f cs) (.fn f ds):=by
 have key:∀(cs ds:List PV),rG ρ m m' cs ds->ds.length=cs.length/\∀(j:Nat) (p r:PV),cs[j]?=YW p->ds[j]?=YW r->oW ρ m m' p r:=by
  intro cs
  induction cs with
  |nil=>intro ds h;cases ds with
   |nil=>simp
   |cons d ds=>exact h.elim
  |cons c cs ih=>intro ds h;cases ds with
   |nil=>exact h.elim
   |cons d ds=>
    obtain⟨h1,h2⟩:=h
    grind
 obtain⟨a,b⟩:=key cs ds h;exact .fn f cs ds a b
theorem Nz{xs:List α}{y:α}{c:α->List PV}(h:aB xs (n:Int)=YW y):(xs.map c)[n]?=YW (c y):=by
 unfold aB at h
 simp_all
theorem ZfA{a b c i y:Int}(h:aB [a,b,c] i=YW y):([[PV.v (Y1 Y2 a)],[PV.v (Y1 Y2 b)],[PV.v (Y1 Y2 c)]]:List (List PV))[i.toNat]?=YW [PV.v (Y1 Y2 y)]:=by
 have:([[PV.v (Y1 Y2 a)],[PV.v (Y1 Y2 b)],[PV.v (Y1 Y2 c)]]:List (List PV))=[a,b,c].map aG:=rfl;rw[this];exact zM h
theorem Zcd{a b c y:ByteArray}{i:Int}(h:aB [a,b,c] i=YW y):([[PV.v (.string a)],[PV.v (.string b)],[PV.v (.string c)]]:List (List PV))[i.toNat]?=YW [PV.v (.string y)]:=by
 have:([[PV.v (.string a)],[PV.v (.string b)],[PV.v (.string c)]]:List (List PV))=[a,b,c].map iU:=rfl;rw[this];exact zM h
theorem ZaQ{f:FuncId}{K:PV->Mem->Prop}(h1:∀c∈cs,CX c=YY)(h2:sU P f)(h3:pH P io wd ν f (ps++cs) m K):ZaP P io wd ν (.fn f cs) ps m K:=⟨h1,h2,h3⟩
def As(x:List Int):List PV:=[.sl (x.map aG)]
instance :dD (List Int):=⟨As⟩
instance :dI As:=⟨λx q h=>by simp only[As,Wh]at h;subst h;rfl⟩
attribute [go_sem] As
theorem xf(h:p:=by(first|exact Su|(repeat(first|exact Gd|exact BC|exact Zfg|(refine Pj Gd ?_) |(refine Pj BC ?_) |(refine Pj Zfg ?_) |exact rH (by simp[eK,CX]) |(refine Nw ?_) |(refine Pj (rH (by simp[eK,CX])) ?_))));(first|done|fail)):p:=h
theorem xs(h:p:=by((refine fa.Zf6 (CT.ok hy) ?_);(repeat' (first|exact AY.n|(refine AY.c ?_ ?_) |exact BW.c (vf.r _) |(refine BW.ag ?_) |exact AZ.n|(refine AZ.c ?_ ?_) |exact vf.r _|exact vf.nil _|exact vf.un _)));(first|done|fail)):p:=h
theorem SL{n i:Int}{F:α->Option β}{T:TypeId}{k:IntKind}(H:(cond (Y0 (i=n)) A B).bind F=YW r)(h1:A.bind F=YW r->cR P m T (.ms l) (.v (.int k n)) KR)(h2:B.bind F=YW r->cR P m T (.ms l) (.v (.int k i)) KR):cR P m T (.ms l) (.v (.int k i)) KR:=by
 grind
theorem RS{T:TK}(hm:look m k=YW ⟨T,k',es⟩)(hc:(es.all λcs=>cs.all sq)=YY)(hd:dropped (fV rs) m' k):oW (fV rs) m m' (.ms k) (.sl es):=
 .fms k ⟨T,k',es⟩ (jt.1 hm) (λcs h q hq=>V2.1 (V2.1 hc cs h) q hq) hd
theorem Zaf{T:TypeId}{k:IntKind}{n:Int}(hm:look m l=YW ⟨T',k',es⟩)(hn:Y0 (0<=n/\n<es.length)=YY)(hp:0<ke P T)(hk:k'=ke P T)(hK:KR (.be l n.toNat 0)):cR P m T (.ms l) (.v (.int k n)) KR:=by
 obtain⟨e,hu,he⟩:=tK hp;rw[he]at hk
 have hn:=Yh hn;simp only[cR,hu,mF,hm]
 simp_all
@[go_sem] theorem Zd5{s d:TypeId}{K:PV->Prop}:rS P m s d (.ms l) K=(match P.underlying s,P.underlying d with
 |some (.slice e),YW .string=>P.underlying e=YW (.int .u8)/\live m l λmb=>mb.k=1/\match tp mb.es with
  |some ns=>K (.v (.string (strOfNums ns)))
  |none=>False
 |_,_=>False):=ek rfl
@[go_sem] theorem Zer:tp []=YW []:=ek rfl
@[go_sem] theorem Zeq{n:Int}:tp ([.v (.int .u8 n)]::es)=(tp es).map (n::·):=ek rfl
def ZbW(n:Nat)(hi:Int)(ny b:Nat):Bool:=Y0 (0<=hi/\hi<=(n:Int)/\0<n)&&bn (n+ny) b
theorem U8[dD α]{xs ys:List α}{T:TypeId}{ν l e k n b A B:Nat}{hi:Int}{x:PV}(hok:ZbW xs.length hi ys.length b=YY)(hu:P.underlying T=YW (.slice e))(hz:pz P e=YW zc)(hb:P.bytesOf e=b)(hc:P.cellsOf e=n)(hl:look m l=YW ⟨e,k,xs.map dD.c⟩)(xk:pL m x=YW (ys.map dD.c))
 (zj:zc.length=n) (hp:Y0 (0<n)=YY) (hf:∀x:α,(dD.c x).length=n) (hk:k=n) (hA:A=0) (hB:B=hi.toNat) (hK:KA (.ms ν) (oS (m.set l YX) ν ⟨e,k,(cM xs 0 hi++ys).map dD.c⟩)):gF P ν m T (.ss l A B) x KA:=by
 subst hb hc hA hB hk;unfold ZbW at hok
 rw[Bool.and_eq_true]at hok
 obtain⟨h1,h2⟩:=hok;have h1:=Yh h1;have h2:=Yh h2;have gZ:¬xs.map dD.c=[]:=λh=>by simp_all
 have hle:hi.toNat<=xs.length:=Yn;simp only[gF,hu,hz,xk,mF,hl,Wj];refine⟨zj,Yh hp,λcs so=>?_,trivial,rfl,trivial,⟨hle,gZ⟩,Yn,?_,?_⟩
 ·grind
 ·exact Wr (Nat.mul_le_mul_right _ Yn) h2.2
 ·have e1:List.take hi.toNat (xs.map dD.c)++ys.map dD.c=(cM xs 0 hi++ys).map dD.c:=by
   unfold cM;simp
  simp_all
theorem U6[dD α]{xs ys:List α}{T:TypeId}{ν l e k n b:Nat}{x:PV}(hok:bn (xs.length+ys.length) b=YY)(hy:ys.length=1)(hu:P.underlying T=YW (.slice e))(hz:pz P e=YW zc)(hb:P.bytesOf e=b)(hc:P.cellsOf e=n)(hl:look m l=YW ⟨e,k,xs.map dD.c⟩)(xk:pL m x=YW [cs])
 (uo:cs.length=n) (zj:zc.length=n) (hp:Y0 (0<n)=YY) (hk:k=n) (hK:KA (.ms ν) (oS (m.set l YX) ν ⟨e,k,xs.map dD.c++[cs]⟩)):gF P ν m T (.ms l) x KA:=by
 subst hk;subst hb;have tR:=Yh hok;rw[hy]at tR
 simp only[gF,hu,hz,xk,mF,hl,Wj,List.length_cons,List.length_nil,hc]
 simp_all
theorem Rz{f:FuncId}{r:PV}(hs:yT m ps (λqs=>fa P f qs [] r m1))(hw:m1.length<=wd)(hm:∀mb,YW mb∈m1->∀cs∈mb.es,∀p∈cs,eK YY p\/mb.T.kd.isSome=YY/\vH p=YY)(hg:qR YY r)(hK:KA (yN (sig [] ν) r) (jQ (sig [] ν) ν m1 m)):pH P io wd ν f ps m KA:=
 .inl ⟨r,m1,hs,hw,hm,hg,hK⟩
class US{α:Type}(f:α->List PV):Prop where
 h:∀x,∀q∈f x,Jg q=YY\/vH q=YY
theorem tT[hf:qQ f]{xs:List α}:vH (.sl (xs.map f))=true:=by
 simp only[vH,V2];intro cs so p hp;obtain⟨x,_,rfl⟩:=WI.1 so;exact hf.h x p hp
instance :US aZ:=⟨λx q h=>by simp only[aZ,V5,V4,or_false]at h;(repeat' (first|(rcases h with rfl|h;first|exact .inl rfl|exact .inr tT) |(subst h;first|exact .inl rfl|exact .inr tT)))⟩
instance :US bA:=⟨λx q h=>by simp only[bA,V5,V4,or_false]at h;(repeat' (first|(rcases h with rfl|h;first|exact .inl rfl|exact .inr tT) |(subst h;first|exact .inl rfl|exact .inr tT)))⟩
instance :US cX:=⟨λx q h=>by simp only[cX,V5,V4,or_false]at h;(repeat' (first|(rcases h with rfl|h;first|exact .inl rfl|exact .inr tT) |(subst h;first|exact .inl rfl|exact .inr tT)))⟩
theorem Zc9:∀mb,YW mb∈([]:Mem)->∀cs∈mb.es,∀p∈cs,eK YY p\/mb.T.kd.isSome=YY/\vH p=true:=by simp
theorem Sp[qQ f]{T:TK}{xs:List α}:∀mb,YW mb∈([YW ⟨T,k,xs.map f⟩]:Mem)->∀cs∈mb.es,∀p∈cs,eK YY p\/mb.T.kd.isSome=YY/\vH p=true:=
 λmb h cs hc p hp=>.inl (BC mb h cs hc p hp)
theorem Sn[hf:US f]{t t':TypeId}{xs:List α}:∀mb,YW mb∈([YW ⟨⟨t,YW t'⟩,k,xs.map f⟩]:Mem)->∀cs∈mb.es,∀p∈cs,eK YY p\/mb.T.kd.isSome=YY/\vH p=true:=by
 intro mb h cs hc p hp;simp only[Wh,Option.some.injEq]at h
 subst h;obtain⟨x,_,rfl⟩:=WI.1 hc
 rcases hf.h x p hp with h|h
 ·exact .inl (CI h)
 simp_all
theorem Zfc{x:Option MB}(h1:∀mb,YW mb∈([x]:Mem)->∀cs∈mb.es,∀p∈cs,eK YY p\/mb.T.kd.isSome=YY/\vH p=YY)(h2:∀mb,YW mb∈m->∀cs∈mb.es,∀p∈cs,eK YY p\/mb.T.kd.isSome=YY/\vH p=YY):∀mb,YW mb∈(x::m)->∀cs∈mb.es,∀p∈cs,eK YY p\/mb.T.kd.isSome=YY/\vH p=true:=by
 grind
theorem Zaa(h2:∀mb,YW mb∈m->∀cs∈mb.es,∀p∈cs,eK YY p\/mb.T.kd.isSome=YY/\vH p=YY):∀mb,YW mb∈((YX:Option MB)::m)->∀cs∈mb.es,∀p∈cs,eK YY p\/mb.T.kd.isSome=YY/\vH p=true:=by
 grind
theorem kf(h:p:=by(repeat(first|exact Zc9|exact Sp|exact Sn|(refine Zfc Sp ?_) |(refine Zfc Sn ?_) |(refine Zaa ?_)));(first|done|fail)):p:=h
theorem Zf1{t t':TypeId}:(TK.mk t (YW t')).st [.ms l]=TK.mk t (YW t'):=ek rfl
attribute [go_sem] Zf1
theorem OS[hf:dI f]{t t':TypeId}{k l j k2 n:Nat}{T2:TK}{es2:List (List PV)}{x:α}{xs:List α}(hm:Gs 0 cs=YW (l,j))(h1:kd1 m)(hl:look m l=YW ⟨T2,k2,es2⟩)(ht:T2.t=t')(h:rG ρ m m' cs (f x)):
 vp ρ m m' ⟨⟨t,YW t'⟩,k,(xs.map f).set n cs⟩ ⟨⟨t,YW t'⟩,k,(xs.set n x).map f⟩:=by
 by_cases hn:n<xs.length
 ·exact ED hn hm h1 hl ht h
 ·rw[Yd Yv,Yd Yn]
  exact zy
theorem Vq{t t':TypeId}:vp ρ m m' ⟨TK.of t,k,[]⟩ ⟨⟨t,YW t'⟩,k,([]:List α).map f⟩:=⟨⟨rfl,rfl,.inr trivial⟩,λ_ _ _ _ i ds j l hi=>by grind⟩
def ZfL:PV->Bool
 |.sl (_::_)=>YZ
 |_=>YY
theorem OR{t t':TypeId}{x:α}(hf:(f x).all ZfL=YY)(h:rG ρ m m' cs (f x)):vp ρ m m' ⟨TK.of t,k,V8 n cs⟩ ⟨⟨t,YW t'⟩,k,(V8 n x).map f⟩:=
 ⟨⟨rfl,rfl,.inr (Cu h)⟩,λ_ _ T hT i ds j l hi hj gZ=>by
  have nj:(List.map f (V8 n x))[i]?=YW ds:=hi;rw[Wk]at nj
  obtain⟨y,hy,rfl⟩:=Wb.1 nj;obtain rfl:y=x:=by
   grind
  have h2:=V2.1 hf _ (List.mem_of_getElem? hj)
  cases l with
  |nil=>simp_all
  |cons a b=>cases h2⟩
inductive LL:List (Option Nat)->Mem->Prop
 |n:LL [] []
 |c {r:Option Nat} {x:Option MB} {l:List (Option Nat)} {m:Mem} (h:LL l m):LL (r::l) (x::m)
theorem ZgT{t t':List PV}{l:List (Option Nat)}(hk:LL l m')(hl:vL n0 0 l m'=YY)(hT:D8 (fV l) m m' t t')(hM:oh l m m' l m')(hi:Jd l=YY):rD n0 t m t' m':=ZcL hT hM hi hl
theorem xcs(h:p:=by(try simp only[U_s,U_z]);(with_reducible refine ZgU ?_);(with_reducible apply ZgT);(repeat' (first|(with_reducible exact Zdn) |(with_reducible refine Zdo ?_) |(with_reducible refine Zdp ?_) |(with_reducible refine Vt ?_) |(with_reducible refine ZcJ ?_ ?_) |(with_reducible exact RU) |exact LL.n|(apply LL.c) |(with_reducible exact RV rfl) |exact RV rfl|(with_reducible exact RT) |(with_reducible refine ZcI ?_ ?_) |exact .c _ rfl|exact .un _|exact Vs rfl rfl|exact Vr rfl rfl|exact Il|exact Lk|exact Lj rfl rfl|(refine Ik rfl ?_) |(refine RS rfl rfl ?_) |(refine OV rfl rfl ?_) |(refine RQ rfl rfl rfl ?_) |(refine RN rfl rfl ?_) |(with_reducible refine RO ?_) |(with_reducible refine Vu ?_) |(with_reducible refine Vv ?_) |(with_reducible exact OQ) |(with_reducible refine Vp ?_ ?_) |(with_reducible refine Vo ?_) |(with_reducible refine ZcD ?_) |(with_reducible refine ZcK ?_) |(with_reducible exact MD) |(refine Kh rfl ?_ ?_) |(refine Ki rfl ?_) |(refine MC rfl ?_) |(with_reducible refine Kg ?_) |(with_reducible refine RJ ?_) |(with_reducible exact RI) |(have _:=ky_;exact Vq) |(with_reducible refine RM ?_) |(with_reducible exact ZcG) |(with_reducible refine ZcF ?_ ?_) |(with_reducible exact zy) |(with_reducible refine Ij ?_) |exact zy|(refine Ij ?_) |(refine RL ?_) |(have _:=ky_;refine OR rfl ?_) |(refine OU ?_) |(refine OT rfl ?_) |(refine Li rfl (by exact k1) rfl rfl ?_) |(have _:=ky_;refine OS rfl (by exact k1) rfl rfl ?_) |(refine ED ?_ rfl (by exact k1) rfl rfl ?_) |(simp only[aG,iU,Ck,Y5,Cr,mC,bA,cG,cy,bo,bB,aU,aC,bw,aZ,gK,bK,cX,lM,wR,zv,zw,x7,xa,x5]) |(with_unfolding_all rfl)));(all_goals first|(exact Cw rfl) |exact none|exact[]);(first|done|fail)):p:=h
theorem xss(h:p:=by(refine fa.Zf6 (CT.ok hy) ?_);(repeat' (first|exact AY.n|(refine AY.c ?_ ?_) |exact BW.c (vf.r _) |exact BW.c (vf.nil _) |(refine BW.ag ?_) |exact AZ.n|(refine AZ.c ?_ ?_) |exact vf.r _|exact vf.nil _|exact vf.un _));(first|done|fail)):p:=h
theorem qgd(h:p:=by first|(simp only[go_sem];done) |(simp only[go_sem];decide)):p:=h
theorem BL(h:p:=by first|(simp only[go_sem];done) |(simp only[go_sem];rfl)):p:=h
theorem qgi(h:p:=by first|rfl|(simp only[go_sem];rfl)):p:=h
theorem qgs(h:p:=by first|rfl|exact ZbA (by rfl) (by rfl) (by rfl)):p:=h
theorem qi1(h:p:=by first|rfl|(simp only[CT.args,List.map_cons,List.map_nil,yM,sa,u6,Zcl,Zck,Zcj];done)):p:=h
theorem qi2(h:p:=by simp[CT.args,CT.m0,ta,eK,Gp,xp,Bf,CX]):p:=h
theorem qi3(h:p:=by first|exact List.nodup_nil|decide):p:=h
theorem qi4(h:p:=by(simp only[CT.m0]);(repeat' (first|exact LJ|(refine LI (by rfl) ?_) |(refine LK (by rfl) (by rfl) (by simp[eK,xp,Bf,CX]) ?_)))):p:=h
theorem qi5(h:p:=by intro y_;simp[CT.mem,CT.m0]):p:=h
theorem qi6(h:p:=by intro y_;(simp only[CT.mem]);(repeat(first|exact Su|exact Gd|exact BC|(refine Pj Gd ?_) |(refine Pj (rH (by simp[eK,CX])) ?_) |exact rH (by simp[eK,CX]) |(refine Nw ?_)))):p:=h
theorem qi7(h:p:=by intro y_;(simp[CT.res,qR,ta,eK,CX])):p:=h
theorem qsn(h:p:=by(simp only[yT,DK,yU,DJ,EZ,Tb,Ta,Kf,yd,yZ,List.forall_mem_nil,true_and,and_true,if_true]);(first|exact CT.ok hy|(simp only[all_nil,all_cons,sq,uG,true_and,and_true,if_true];exact CT.ok hy) |exact xss|(simp only[all_nil,all_cons,sq,uG,true_and,and_true,if_true];exact xss))):p:=h
theorem qgV(h:p:=by first|exact ZeP rfl|exact ZeQ rfl|exact ZcU rfl|exact ZcV rfl|exact(fun h=>(by cases h)) |(simp[CT.res,qR,ta,eK,CX])):p:=h
theorem qgF(h:p:=by first|exact ZcT rfl|exact(fun _=>rfl) |(simp[CT.res,qR,ta,eK,Jg])):p:=h
theorem KJ(h:p:=by
 (simp only[List.length_cons,List.length_nil,Nat.reduceAdd,Nat.reduceSub,List.replicate_succ,List.replicate_zero,List.cons_append,List.nil_append,go_sem]);
 repeat' (first
  |((with_reducible refine SL H ?_ ?_)<;>(clear H;intro H;(try(refine Zaf (by rfl) (by rfl) qgd qgi ?_;simp only[go_sem,Nat.reduceAdd,Nat.reduceSub,Nat.reduceMul,Nat.reduceLT,Nat.reduceLeDiff,Nat.reduceEqDiff,if_true,eq_self,Int.reduceToNat]))))
  |((with_reducible refine ZaQ ?_ ?_ ?_);(focus (simp[CX]));(focus (simp only[go_sem]));(simp only[List.cons_append,List.nil_append]))
  |((with_reducible refine ZfY (ZfX H) ?_);(refine Ry H rfl rfl ?_ ?_ ?_ ?_ ?_ ?_ ?_ ?_);(focus exact qi1);(focus exact qi2);(focus exact qi3);(focus exact qi4);(focus exact qi5);(focus exact qi6);(focus exact qi7);(clear H;intro y_ hy H;simp only[CT.res,CT.mem,oU,List.drop_succ_cons,List.drop_zero,Option.map_none,go_sem,Nat.reduceAdd,Nat.reduceSub,Nat.reduceMul,Nat.reduceLT,Nat.reduceLeDiff,Nat.reduceEqDiff,if_true,eq_self]))
  |((with_reducible refine jnS (jnH H) ?_);(first|((refine Za7 H ?_ ?_ (fun K_ hL H=>?_) (fun o_ H=>?_));(focus (decide +kernel));(focus (decide +kernel))) |((refine TQ H ?_ ?_ (fun K_ hL H=>?_) (fun o_ H=>?_));(focus (decide +kernel));(focus (decide +kernel)))))
  |((with_reducible refine ZhU (ZfX H) ?_);(refine Vj H rfl rfl rfl ?_ ?_ ?_ ?_ ?_ ?_ ?_ ?_);(focus exact qi1);(focus exact qi2);(focus exact qi3);(focus exact qi4);(focus exact qi5);(focus exact qi6);(focus exact qi7);(clear H;intro y_ hy H;simp only[CT.res,CT.mem,oU,List.drop_succ_cons,List.drop_zero,Option.map_none,go_sem,Nat.reduceAdd,Nat.reduceSub,Nat.reduceMul,Nat.reduceLT,Nat.reduceLeDiff,Nat.reduceEqDiff,if_true,eq_self]))
  |((with_reducible refine TP H ?_ ?_);(focus exact xcs);(clear H;intro z_ H))
  |((with_reducible refine Za6 H ?_ ?_);(focus exact xcs);(clear H;intro H))
  |((with_reducible refine Za9 ?_);intro K_ hK)
  |(with_reducible refine Qh ?_)
  |((first|((with_reducible refine TN H rfl (by kernel_rfl) ?_);(clear H;intro H)) |(with_reducible refine Mu ?_) |((with_reducible refine ZeR ?_);(refine IG (fun hg=>Zea H hg ?_) (fun hg=>Zeb H hg ?_))<;>(clear H;intro H)) |((with_reducible refine Zhz ?_);replace H:=BP H;obtain⟨y_,hy,H⟩:=H;(with_reducible apply Zdj hy);(focus exact qgd);(focus exact qgi)) |((with_reducible refine Zhy ?_);replace H:=BP H;obtain⟨y_,hy,H⟩:=H;(first|refine Zag hy (by rfl) qgd qgi ?_|refine SM hy (by rfl) qgd qgi ?_)) |((with_reducible refine Zhx ?_);replace H:=BP H;obtain⟨y_,hy,H⟩:=H;(with_reducible apply Zah hy);(focus (simp only[go_sem]))) |((with_reducible refine ZhZ ?_);replace H:=UR H;obtain⟨hc,H⟩:=H;(first|((with_reducible apply Um hc);(focus rfl);(focus rfl);(focus exact qgd);(focus (first|rfl|(intro x_;rfl)))) |refine QD hc (by rfl) (by rfl) (by rfl) qgd qgi ?_|((with_reducible apply QE hc);(focus rfl);(focus rfl);(focus (simp only[go_sem]))))) |((with_reducible refine Zgz ?_);replace H:=UR H;obtain⟨hc,H⟩:=H;(first|refine U5 hc BL BL BL BL (by rfl) qgs rfl rfl (by intro x_;rfl) rfl ?_|refine U7 hc BL BL BL BL qgs rfl rfl (by intro x_;rfl) ?_|refine U8 hc BL BL BL BL (by rfl) qgs rfl rfl (by intro x_;rfl) rfl rfl rfl ?_|refine U4 hc rfl BL BL BL BL (by rfl) (by rfl) (by rfl) (by rfl) rfl rfl (by rfl) ?_|refine U6 hc rfl BL BL BL BL (by rfl) (by rfl) (by rfl) rfl rfl rfl ?_)) |((with_reducible refine mkS ?_);replace H:=UR H;obtain⟨hc,H⟩:=H;refine Zdq hc BL BL BL BL rfl rfl ?_) |((with_reducible refine ZhM ?_);(first|(with_reducible refine Gy (by decide) ?_) |(replace H:=UR H;obtain⟨hc,H⟩:=H;(first|refine Gy hc ?_|refine Gy (of_decide_eq_true hc) ?_|refine Gy ⟨rfl,of_decide_eq_true hc⟩ ?_)))) |(with_reducible refine TM (by kernel_rfl) ?_))<;>simp only[go_sem,Nat.reduceAdd,Nat.reduceSub,Nat.reduceMul,Nat.reduceLT,Nat.reduceLeDiff,Nat.reduceEqDiff,if_true,eq_self])
  |((with_reducible refine TR ?_);(try simp only[sg,rq]))
  |((with_reducible refine TO ?_);(simp only[DV,Ar,sg,rq,if_true,if_false,eq_self,Nat.reduceEqDiff,Nat.one_ne_zero,Nat.zero_ne_one]);(try simp only[Zep,bsr,bsl]at H))
  |((with_reducible refine Za8 ?_);(try simp only[FC,Ch]))
  |((first|with_reducible refine hQ _ _ ?_|with_reducible refine IP _ _ ?_);(try simp only[Zep,bsr,bsl]at H);replace H:=Zgx H;subst H;simp only[Fin,Qr,ZaO,go_sem,Nat.reduceAdd,Nat.reduceSub,Nat.reduceMul,Nat.reduceLT,Nat.reduceLeDiff,Nat.reduceEqDiff,if_true,eq_self];exact xcs)
  |((with_reducible refine Qi ?_);simp only[Np,Sc,Sb,IC];(first|with_reducible refine RH ?_|with_reducible refine RG ?_|((refine Ih (fun hg=>Zea H hg ?_) (fun hg=>Zeb H hg ?_))<;>(clear H;intro H))))
  |((with_reducible refine Zes ?_);replace H:=BP H;obtain⟨y_,hy,H⟩:=H;(first|((with_reducible apply OI);(focus (first|exact CT.ok hy|exact xss));(focus (simp[Pv,sq,uG]));(focus exact Nat.le_of_ble_eq_true rfl);(focus exact xf);(focus exact qgV)) |(have _:=ky_;(with_reducible apply Rz);(focus exact qsn);(focus exact Nat.le_of_ble_eq_true rfl);(focus exact kf);(focus exact qgF)) |((with_reducible apply OJ);(focus exact qsn);(focus exact Nat.le_of_ble_eq_true rfl);(focus exact xf);(focus exact qgF)));simp only[CT.res,CT.mem,go_sem,Nat.reduceAdd,Nat.reduceSub,Nat.reduceMul,Nat.reduceLT,Nat.reduceLeDiff,Nat.reduceEqDiff,if_true,eq_self])
  |((with_reducible refine ZfC ?_);(refine Qk (Hlp H) ?_ ?_);(focus (simp only[bp.T,bp.M,U_s,U_z];exact xcs));(clear H;intro n_ s_ H K_ hL;replace H:=Hrd H;simp only[bp.T,bp.M,U_s,U_z]))
  |((with_reducible refine Lq (by kernel_rfl) ?_);(try simp only[sg,rq]))
  |(with_reducible refine hK _ _ ?_;clear hK)
  |(clear hK;with_reducible refine hK _ _ ?_;clear hK)
  |((iterate 2 clear hK);with_reducible refine hK _ _ ?_;clear hK)
  |((iterate 3 clear hK);with_reducible refine hK _ _ ?_;clear hK)
  |((iterate 4 clear hK);with_reducible refine hK _ _ ?_;clear hK)
  |((iterate 5 clear hK);with_reducible refine hK _ _ ?_;clear hK)
  |((with_reducible refine And.intro ?_ ?_);omega)
  |(simp only[NP,NM,NO,M6];simp only[go_sem,Nat.reduceAdd,Nat.reduceSub,Nat.reduceMul,Nat.reduceLT,Nat.reduceLeDiff,Nat.reduceEqDiff,if_true,eq_self])
  |(first|simp only[ZfA hy,Option.map_some,List.drop_zero,go_sem] |simp only[Zcd hy,Option.map_some,List.drop_zero,go_sem] |simp only[Nz hy,zM hy,Gh hy,go_sem,Nat.reduceAdd,Nat.reduceSub,Nat.reduceMul,Nat.reduceLT,Nat.reduceLeDiff,Nat.reduceEqDiff,if_true,eq_self] |simp only[zM hy,Gh hy,go_sem,Nat.reduceAdd,Nat.reduceSub,Nat.reduceMul,Nat.reduceLT,Nat.reduceLeDiff,Nat.reduceEqDiff,if_true,eq_self])
  |((with_reducible replace H:=Zgw H);(first|with_reducible refine hL _ _ _ H ?_|(clear hL;with_reducible refine hL _ _ _ H ?_));(try simp only[bp.T,bp.M,U_s,U_z]);exact xcs)
  |((with_reducible refine jnX H hL ?_);exact xcs)
  |(with_reducible exact(Zec H).elim)
  |((with_reducible replace H:=rgH H);obtain⟨y_,hy,H⟩:=H;(first|simp only[ZfA hy,Option.map_some,List.drop_zero,go_sem] |simp only[Zcd hy,Option.map_some,List.drop_zero,go_sem] |simp only[Nz hy,zM hy,Gh hy,go_sem,Nat.reduceAdd,Nat.reduceSub,Nat.reduceMul,Nat.reduceLT,Nat.reduceLeDiff,Nat.reduceEqDiff,if_true,eq_self] |simp only[zM hy,Gh hy,go_sem,Nat.reduceAdd,Nat.reduceSub,Nat.reduceMul,Nat.reduceLT,Nat.reduceLeDiff,Nat.reduceEqDiff,if_true,eq_self])))):p:=h
theorem cw{x:α}{f:FuncId}{c:Code}(e:A=B)(hf:P.funcs[f]?=some fn)(hn:fn.ntmps=n){rs:Array ResultVar}(hrs:fn.results=rs){r:PV}(hb:fn.body=some c:=by exact rfl)
 (h:∀Q:Exit->List PV->Mem->Prop,B.bind some=some x->(∀t m,Fin P m0.length rs r m1 t m->Q .ret t m)->(∀t m,Fin P m0.length rs r m1 t m->Q .normal t m)->qP P m0.length c Q (args++V8 (n-args.length) .ud) m0:=by intro Q H hQ IP;exact KJ) (H:A=some x):fa P f args m0 r m1:=js hf hb hn hrs fun Q=>h Q (H0 (e▸H))
theorem ck{x:α}{f:FuncId}{c:Code}(e:A=B)(hf:P.funcs[f]?=some fn)(hn:fn.ntmps=n){rs:Array ResultVar}(hrs:fn.results=rs){r:PV}(hb:fn.body=some c:=by exact rfl)
 (h:∀Q:Exit->List PV->Mem->Prop,B.bind some=some x->(∀t m,Fin P m0.length rs r m1 t m->Q .ret t m)->(∀t m,Fin P m0.length rs r m1 t m->Q .normal t m)->qP P m0.length c Q (args++V8 (n-args.length) .ud) m0:=by intro Q H hQ IP;have ky_:=trivial;exact KJ) (H:A=some x):fa P f args m0 r m1:=js hf hb hn hrs fun Q=>h Q (H0 (e▸H))
def dw(s:ByteArray)(s0:Int):Option (Int⊕(Unit⊕Bool)):=
 cond (Y0 (s0<(s.size:Int)))
 ((uC s s0).bind λy1=>
 cond (Y0 (y1<65))
 (YW (.inr (.inr YZ)))
 ((uC s s0).bind λy2=>
 cond (Y0 (90<y2))
 (YW (.inr (.inr YZ)))
 (YW (.inl (aM (s0+1))))))
 (YW (.inr (.inl ())))
instance (s:ByteArray):bp (dw s):=⟨λs0=>(vs s::.un::.un::vi s0::(U 19 [])),λs0=>[]⟩
def dT(s:ByteArray):Option Bool:=
 (aE (dw s) NN 0).bind (bh (λo0=>
 YW (Y0 ((s.size:Int)=3))) (λr=>YW r))
instance (s:ByteArray):CT prog (dT s):=⟨91,[vs s],[],λr=>vb r,λr=>[],cw (dT.eq_1 ..) func91 ntmps91 results91⟩
def bb(x:Int)(least:Int)(xq:Int):Option Bool:=
 cond (Y0 (least<=x))
 (YW (Y0 (x<=xq)))
 (YW YZ)
instance (x:Int)(least:Int)(xq:Int):CT prog (bb x least xq):=⟨176,[vi x,vi least,vi xq],[],λr=>vb r,λr=>[],cw (bb.eq_1 ..) func176 ntmps176 results176⟩
def jL(s:ByteArray)(s0:Int):Option (Int⊕(Unit⊕Bool)):=
 cond (Y0 (s0<3))
 ((uC s s0).bind λy1=>
 (bb (IntKind.i64.wrap y1) 65 90).bind λy2=>
 cond (!y2)
 (YW (.inr (.inr YZ)))
 (YW (.inl (aM (s0+1)))))
 (YW (.inr (.inl ())))
instance (s:ByteArray):bp (jL s):=⟨λs0=>(vs s::.un::.un::vi s0::(U 13 [])),λs0=>[]⟩
def bV(s:ByteArray):Option Bool:=
 cond (!decide ((s.size:Int)=3))
 (YW YZ)
 ((aE (jL s) NN 0).bind (bh (λo0=>
 YW YY) (λr=>YW r)))
instance (s:ByteArray):CT prog (bV s):=⟨218,[vs s],[],λr=>vb r,λr=>[],cw (bV.eq_1 ..) func218 ntmps218 results218⟩
def aX(n:Int)(low:Int)(high:Int):Option Bool:=
 cond (Y0 (low<=n))
 (YW (Y0 (n<=high)))
 (YW YZ)
instance (n:Int)(low:Int)(high:Int):CT prog (aX n low high):=⟨72,[vi n,vi low,vi high],[],λr=>vb r,λr=>[],cw (aX.eq_1 ..) func72 ntmps72 results72⟩
theorem um(n l h:Int):aX n l h=YW (Y0 (l<=n)&&Y0 (n<=h)):=by
 unfold aX;grind
theorem cN(n l h:Int):bb n l h=YW (Y0 (l<=n)&&Y0 (n<=h)):=by
 unfold bb;grind
theorem gY:@aX=@bb:=by rfl
theorem Bz{i c:Int}(h:uC s i=YW c):0<=c/\c<=255:=by
 unfold uC at h
 split at h
 ·cases h
  unfold zu
  cases hb:s[i.toNat]? with
  |none=>simp
  |some b=>
   have:=b.toNat_lt
   grind
 grind
theorem P2(hs:s.size=3):dw s=jL s:=by
 funext i
 unfold dw jL;rw[hs]
 cases hi:Y0 (i<3)with
 |false=>rfl
 |true=>
  simp only[show((3:Nat):Int)=3 from rfl,hi,Yj]
  cases hg:uC s i with
  |none=>rfl
  |some y=>
   obtain⟨h0,h1⟩:=Bz hg;simp only[VT,hg];rw[show IntKind.i64.wrap y=y from aR Yn,cN]
   grind
theorem zE(h:i<s.size):∃c,uC s (i:Int)=YW c:=by
 unfold uC;simp_all
theorem JW(hs:s.size<=1152921504606846000):∀(k i N:Nat),i+k=s.size->k<N->∃o,aE (dw s) N (i:Int)=YW o/\(o=.inl ()\/o=.inr YZ):=by
 intro k
 induction k with
 |zero=>
  intro i N hi hk
  cases N with
  |zero=>omega
  |succ N=>exact⟨.inl (),by simp[aE,dw,show ¬((i:Int)<s.size)by omega],.inl rfl⟩
 |succ k ih=>
  intro i N hi hk
  cases N with
  |zero=>omega
  |succ N=>
   obtain⟨c,hc⟩:=zE (s:=s) (i:=i) Yn;have hw:=bG (i:=i) (n:=s.size) Yn Yn
   by_cases h2:c<65
   ·exact⟨.inr YZ,by simp[aE,dw,show(i:Int)<s.size by omega,hc,h2],.inr rfl⟩
   ·by_cases h3:90<c
    ·exact⟨.inr YZ,by simp[aE,dw,show(i:Int)<s.size by omega,hc,h2,h3],.inr rfl⟩
    ·obtain⟨o,ho,hoo⟩:=ih (i+1) N Yn Yn
     refine⟨o,?_,hoo⟩;simp only[aE,dw,Ya (show(i:Int)<s.size by omega),Yj,hc,VT,Yg h2,Yg h3,Yk,hw]
     omega
theorem np(hs:s.size<=1152921504606846000):dT s=bV s/\∃b,bV s=YW b:=by
 obtain⟨o,ho,hoo⟩:=JW hs s.size 0 NN Yn Ys;have zg:aE (dw s) NN 0=YW o:=ho
 by_cases h3:s.size=3
 ·have e:bV s=(aE (dw s) NN 0).bind (bh (λ_=>YW YY) (λr=>YW r)):=by
   unfold bV;rw[P2 h3,h3];rfl
  have e2:dT s=(aE (dw s) NN 0).bind (bh (λ_=>YW (Y0 ((s.size:Int)=3))) (λr=>YW r)):=rfl
  rw[e,e2,zg,h3]
  grind
 ·have e:bV s=YW false:=by unfold bV;grind
  have e2:dT s=YW false:=by
   unfold dT;rw[zg]
   rcases hoo with rfl|rfl
   ·show YW _=YW _;rw[Yg Yn]
   rfl
  simp_all
def sy:Nat:=1152921504606846000
end Go.Proofs.YtdilaemengjipaaGreatDoor
namespace Go.Proofs
open Go.Proofs.YtdilaemengjipaaGreatDoor(Yp)
open Go.Shelf
def Tryz.AN:WQ:=⟨λ|169=>58|n=>n,λ|70=>106|9=>9|0=>0|72=>108|37=>22|127=>174|3=>3|5=>5|n=>n,λ|n=>n⟩
theorem Tryz.Zaw:Go.Proofs.Lays.n169 prog Tryz.AN:={
 mixed:=by kernel_rfl
 f169:=func58.trans (congrArg YW Yp)
 t0:=Tryz.underlying0
 a0:=Tryz.isAgg0
 z0:=Tryz.sizeOf0
 v0:=Tryz.zeroValue0
 t3:=Tryz.underlying3
 a3:=Tryz.isAgg3
 z3:=Tryz.sizeOf3
 v3:=Tryz.zeroValue3
 t9:=Tryz.underlying9
 a9:=Tryz.isAgg9
 z9:=Tryz.sizeOf9
 v9:=Tryz.zeroValue9
 t37:=Tryz.underlying22
 a37:=Tryz.isAgg22
 z37:=Tryz.sizeOf22
 v37:=Tryz.zeroValue22
 t70:=Tryz.underlying106
 a70:=Tryz.isAgg106
 z70:=Tryz.sizeOf106
 v70:=Tryz.zeroValue106
 t72:=Tryz.underlying108
 a72:=Tryz.isAgg108
 z72:=Tryz.sizeOf108
 v72:=Tryz.zeroValue108
 t127:=Tryz.underlying174
 a127:=Tryz.isAgg174
 z127:=Tryz.sizeOf174
 v127:=Tryz.zeroValue174}
theorem Tryz.lL:Builder.Extra prog Tryz.AN:={
 sizeBuilder:=by kernel_rfl
 liesBuilder:=by kernel_rfl
 t5:=Tryz.underlying5
 a5:=Tryz.isAgg5
 z5:=Tryz.sizeOf5
 v5:=Tryz.zeroValue5
 infoByte:=by kernel_rfl
 cellsByte:=by kernel_rfl
 sizeByte:=by kernel_rfl
 neB5:=by decide}
open Go.RowKit in
theorem Tryz.Builder_String_any(B b:Nat)(l:List UInt8)(w:World)(h:Lib.IsBuilder 108 5 B b (Lib.byteCells l) w)(hBw:B<=w.heap.size):
 Calls prog 58 #[.pointer (YW ⟨b,0,YX⟩)] w λe w'=>e=.returned (.string ⟨l.toArray⟩)/\Below B w w':=Any.Builder_String_any Tryz.Zaw Tryz.lL B b l w h hBw
def Tryz.Jn:WQ:=⟨λ|125=>212|128=>275|129=>276|n=>n,λ|46=>222|3=>3|51=>295|53=>282|4=>4|5=>5|9=>9|n=>n,λ|n=>n⟩
theorem Tryz.Zat:Go.Proofs.Lays.n125 prog Tryz.Jn:={
 mixed:=by kernel_rfl
 f125:=func212.trans (congrArg YW Yp)
 f128:=func275.trans (congrArg YW Yp)
 f129:=func276.trans (congrArg YW Yp)
 t3:=Tryz.underlying3
 a3:=Tryz.isAgg3
 z3:=Tryz.sizeOf3
 v3:=Tryz.zeroValue3
 t4:=Tryz.underlying4
 a4:=Tryz.isAgg4
 z4:=Tryz.sizeOf4
 v4:=Tryz.zeroValue4
 t5:=Tryz.underlying5
 a5:=Tryz.isAgg5
 z5:=Tryz.sizeOf5
 v5:=Tryz.zeroValue5
 t9:=Tryz.underlying9
 a9:=Tryz.isAgg9
 z9:=Tryz.sizeOf9
 v9:=Tryz.zeroValue9
 t46:=Tryz.underlying222
 a46:=Tryz.isAgg222
 z46:=Tryz.sizeOf222
 v46:=Tryz.zeroValue222
 t51:=Tryz.underlying295
 a51:=Tryz.isAgg295
 z51:=Tryz.sizeOf295
 v51:=Tryz.zeroValue295
 t53:=Tryz.underlying282
 a53:=Tryz.isAgg282
 z53:=Tryz.sizeOf282
 v53:=Tryz.zeroValue282}
theorem Tryz.bits_Len(x:Int)(w:World)(h0:0<=x)(h1:x<=18446744073709551615):
 Calls prog 212 #[.int .u64 x] w λe w'=>e=.returned (Y1 Y2 (Lib.bitLen x.toNat))/\w'=w:=Any.bits_Len Tryz.Zat x w h0 h1
def Tryz.Gn:WQ:=⟨λ|171=>98|243=>164|246=>210|283=>262|284=>263|285=>264|286=>265|129=>276|317=>336|318=>337|319=>338|320=>339|337=>373|338=>374|n=>n,λ|3=>3|9=>9|2=>2|4=>4|171=>281|0=>0|53=>282|37=>22|5=>5|173=>285|212=>329|51=>295|20=>20|213=>330|46=>222|232=>377|233=>378|n=>n,λ|17=>1|18=>6|19=>7|n=>n⟩
theorem Tryz.S4:Go.Proofs.LaysM.n171 prog Tryz.Gn:={
 mixed:=by kernel_rfl
 f129:=func276.trans (congrArg YW Yp)
 f171:=func98.trans (congrArg YW Yp)
 f243:=func164.trans (congrArg YW Yp)
 f246:=func210.trans (congrArg YW Yp)
 f283:=func262.trans (congrArg YW Yp)
 f284:=func263.trans (congrArg YW Yp)
 f285:=func264.trans (congrArg YW Yp)
 f286:=func265.trans (congrArg YW Yp)
 f317:=func336.trans (congrArg YW Yp)
 f318:=func337.trans (congrArg YW Yp)
 f319:=func338.trans (congrArg YW Yp)
 f320:=func339.trans (congrArg YW Yp)
 f337:=func373.trans (congrArg YW Yp)
 f338:=func374.trans (congrArg YW Yp)
 t0:=Tryz.underlying0
 a0:=Tryz.isAgg0
 z0:=Tryz.sizeOf0
 v0:=Tryz.zeroValue0
 t2:=Tryz.underlying2
 a2:=Tryz.isAgg2
 z2:=Tryz.sizeOf2
 v2:=Tryz.zeroValue2
 t3:=Tryz.underlying3
 a3:=Tryz.isAgg3
 z3:=Tryz.sizeOf3
 v3:=Tryz.zeroValue3
 t4:=Tryz.underlying4
 a4:=Tryz.isAgg4
 z4:=Tryz.sizeOf4
 v4:=Tryz.zeroValue4
 t5:=Tryz.underlying5
 a5:=Tryz.isAgg5
 z5:=Tryz.sizeOf5
 v5:=Tryz.zeroValue5
 t9:=Tryz.underlying9
 a9:=Tryz.isAgg9
 z9:=Tryz.sizeOf9
 v9:=Tryz.zeroValue9
 t20:=Tryz.underlying20
 a20:=Tryz.isAgg20
 z20:=Tryz.sizeOf20
 v20:=Tryz.zeroValue20
 t37:=Tryz.underlying22
 a37:=Tryz.isAgg22
 z37:=Tryz.sizeOf22
 v37:=Tryz.zeroValue22
 t46:=Tryz.underlying222
 a46:=Tryz.isAgg222
 z46:=Tryz.sizeOf222
 v46:=Tryz.zeroValue222
 t51:=Tryz.underlying295
 a51:=Tryz.isAgg295
 z51:=Tryz.sizeOf295
 v51:=Tryz.zeroValue295
 t53:=Tryz.underlying282
 a53:=Tryz.isAgg282
 z53:=Tryz.sizeOf282
 v53:=Tryz.zeroValue282
 t171:=Tryz.underlying281
 a171:=Tryz.isAgg281
 z171:=Tryz.sizeOf281
 v171:=Tryz.zeroValue281
 t173:=Tryz.underlying285
 a173:=Tryz.isAgg285
 z173:=Tryz.sizeOf285
 v173:=Tryz.zeroValue285
 t212:=Tryz.underlying329
 a212:=Tryz.isAgg329
 z212:=Tryz.sizeOf329
 v212:=Tryz.zeroValue329
 t213:=Tryz.underlying330
 a213:=Tryz.isAgg330
 z213:=Tryz.sizeOf330
 t232:=Tryz.underlying377
 a232:=Tryz.isAgg377
 z232:=Tryz.sizeOf377
 v232:=Tryz.zeroValue377
 t233:=Tryz.underlying378
 a233:=Tryz.isAgg378
 z233:=Tryz.sizeOf378
 v233:=Tryz.zeroValue378
 g17:=by kernel_rfl
 g18:=by kernel_rfl
 g19:=by kernel_rfl
 i0:=by kernel_rfl
 i2:=by kernel_rfl
 i3:=by kernel_rfl
 i4:=by kernel_rfl
 i5:=by kernel_rfl
 i9:=by kernel_rfl
 i20:=by kernel_rfl
 i37:=by kernel_rfl
 i46:=by kernel_rfl
 i51:=by kernel_rfl
 i53:=by kernel_rfl
 i171:=by kernel_rfl
 i173:=by kernel_rfl
 i212:=by kernel_rfl
 i232:=by kernel_rfl
 i233:=by kernel_rfl
 m17:=by kernel_rfl
 m18:=by kernel_rfl
 m19:=by kernel_rfl}
open Go.RowKit Go.Sort Go.Lib in
theorem Tryz.strconv_Itoa (n : Int) (h0 : -9223372036854775808 <= n) (h1 : n <= 9223372036854775807) (w : World) (Zhq : Lib.TabIs prog w "internal/strconv.uint64pow10" .u64 Lib.pow10Tab) :
 Calls prog 98 #[Y1 Y2 n] w λe w'=>e=.returned (.string ⟨(Lib.itoa n).toArray⟩)/\∃k os,w'=grow (w.drewN k) os:=Any.strconv_Itoa Tryz.S4 n h0 h1 w Zhq
def Tryz.Jq:WQ:=⟨λ|171=>98|243=>164|246=>210|283=>262|284=>263|285=>264|286=>265|129=>276|317=>336|318=>337|319=>338|320=>339|337=>373|338=>374|n=>n,λ|3=>3|9=>9|2=>2|4=>4|171=>281|0=>0|53=>282|37=>22|5=>5|173=>285|212=>329|51=>295|20=>20|213=>330|46=>222|232=>377|233=>378|n=>n,λ|17=>1|18=>6|19=>7|n=>n⟩
theorem Tryz.Zax:Go.Proofs.Lays.n171 prog Tryz.Jq:={
 mixed:=by kernel_rfl
 f129:=func276.trans (congrArg YW Yp)
 f171:=func98.trans (congrArg YW Yp)
 f243:=func164.trans (congrArg YW Yp)
 f246:=func210.trans (congrArg YW Yp)
 f283:=func262.trans (congrArg YW Yp)
 f284:=func263.trans (congrArg YW Yp)
 f285:=func264.trans (congrArg YW Yp)
 f286:=func265.trans (congrArg YW Yp)
 f317:=func336.trans (congrArg YW Yp)
 f318:=func337.trans (congrArg YW Yp)
 f319:=func338.trans (congrArg YW Yp)
 f320:=func339.trans (congrArg YW Yp)
 f337:=func373.trans (congrArg YW Yp)
 f338:=func374.trans (congrArg YW Yp)
 t0:=Tryz.underlying0
 a0:=Tryz.isAgg0
 z0:=Tryz.sizeOf0
 v0:=Tryz.zeroValue0
 t2:=Tryz.underlying2
 a2:=Tryz.isAgg2
 z2:=Tryz.sizeOf2
 v2:=Tryz.zeroValue2
 t3:=Tryz.underlying3
 a3:=Tryz.isAgg3
 z3:=Tryz.sizeOf3
 v3:=Tryz.zeroValue3
 t4:=Tryz.underlying4
 a4:=Tryz.isAgg4
 z4:=Tryz.sizeOf4
 v4:=Tryz.zeroValue4
 t5:=Tryz.underlying5
 a5:=Tryz.isAgg5
 z5:=Tryz.sizeOf5
 v5:=Tryz.zeroValue5
 t9:=Tryz.underlying9
 a9:=Tryz.isAgg9
 z9:=Tryz.sizeOf9
 v9:=Tryz.zeroValue9
 t20:=Tryz.underlying20
 a20:=Tryz.isAgg20
 z20:=Tryz.sizeOf20
 v20:=Tryz.zeroValue20
 t37:=Tryz.underlying22
 a37:=Tryz.isAgg22
 z37:=Tryz.sizeOf22
 v37:=Tryz.zeroValue22
 t46:=Tryz.underlying222
 a46:=Tryz.isAgg222
 z46:=Tryz.sizeOf222
 v46:=Tryz.zeroValue222
 t51:=Tryz.underlying295
 a51:=Tryz.isAgg295
 z51:=Tryz.sizeOf295
 v51:=Tryz.zeroValue295
 t53:=Tryz.underlying282
 a53:=Tryz.isAgg282
 z53:=Tryz.sizeOf282
 v53:=Tryz.zeroValue282
 t171:=Tryz.underlying281
 a171:=Tryz.isAgg281
 z171:=Tryz.sizeOf281
 v171:=Tryz.zeroValue281
 t173:=Tryz.underlying285
 a173:=Tryz.isAgg285
 z173:=Tryz.sizeOf285
 v173:=Tryz.zeroValue285
 t212:=Tryz.underlying329
 a212:=Tryz.isAgg329
 z212:=Tryz.sizeOf329
 v212:=Tryz.zeroValue329
 t213:=Tryz.underlying330
 a213:=Tryz.isAgg330
 z213:=Tryz.sizeOf330
 t232:=Tryz.underlying377
 a232:=Tryz.isAgg377
 z232:=Tryz.sizeOf377
 v232:=Tryz.zeroValue377
 t233:=Tryz.underlying378
 a233:=Tryz.isAgg378
 z233:=Tryz.sizeOf378
 v233:=Tryz.zeroValue378
 g17:=by kernel_rfl
 g18:=by kernel_rfl
 g19:=by kernel_rfl}
open Go.RowKit Go.Sort Go.Lib in
theorem Tryz.strconv_Itoa_small(i:Nat)(hi:i<100)(w:World):
 Calls prog 98 #[Y1 Y2 i] w λe w'=>e=.returned (.string ⟨(Lib.decDigits i).toArray⟩)/\w'=w:=Any.strconv_Itoa_small Tryz.Zax i hi w
def Tryz.Gl:WQ:=⟨λ|172=>192|244=>242|245=>243|247=>304|279=>305|280=>306|281=>307|282=>308|287=>354|316=>355|171=>98|205=>356|321=>381|322=>382|243=>164|246=>210|283=>262|284=>263|285=>264|286=>265|129=>276|317=>336|318=>337|319=>338|320=>339|337=>373|338=>374|n=>n,λ|9=>9|3=>3|75=>110|76=>111|4=>4|5=>5|167=>302|37=>22|0=>0|85=>303|2=>2|168=>305|53=>282|175=>346|46=>222|210=>350|127=>174|145=>372|143=>370|21=>21|171=>281|173=>285|212=>329|51=>295|20=>20|213=>330|232=>377|233=>378|80=>113|n=>n,λ|15=>4|16=>5|17=>1|18=>6|19=>7|n=>n⟩
theorem Tryz.C4:Go.Proofs.LaysC.n172 prog Tryz.Gl:={
 mixed:=by kernel_rfl
 f129:=func276.trans (congrArg YW Yp)
 f171:=func98.trans (congrArg YW Yp)
 f172:=func192.trans (congrArg YW Yp)
 f205:=func356.trans (congrArg YW Yp)
 f243:=func164.trans (congrArg YW Yp)
 f244:=func242.trans (congrArg YW Yp)
 f245:=func243.trans (congrArg YW Yp)
 f246:=func210.trans (congrArg YW Yp)
 f247:=func304.trans (congrArg YW Yp)
 f279:=func305.trans (congrArg YW Yp)
 f280:=func306.trans (congrArg YW Yp)
 f281:=func307.trans (congrArg YW Yp)
 f282:=func308.trans (congrArg YW Yp)
 f283:=func262.trans (congrArg YW Yp)
 f284:=func263.trans (congrArg YW Yp)
 f285:=func264.trans (congrArg YW Yp)
 f286:=func265.trans (congrArg YW Yp)
 f287:=func354.trans (congrArg YW Yp)
 f316:=func355.trans (congrArg YW Yp)
 f317:=func336.trans (congrArg YW Yp)
 f318:=func337.trans (congrArg YW Yp)
 f319:=func338.trans (congrArg YW Yp)
 f320:=func339.trans (congrArg YW Yp)
 f321:=func381.trans (congrArg YW Yp)
 f322:=func382.trans (congrArg YW Yp)
 f337:=func373.trans (congrArg YW Yp)
 f338:=func374.trans (congrArg YW Yp)
 t0:=Tryz.underlying0
 a0:=Tryz.isAgg0
 z0:=Tryz.sizeOf0
 v0:=Tryz.zeroValue0
 t2:=Tryz.underlying2
 a2:=Tryz.isAgg2
 z2:=Tryz.sizeOf2
 v2:=Tryz.zeroValue2
 t3:=Tryz.underlying3
 a3:=Tryz.isAgg3
 z3:=Tryz.sizeOf3
 v3:=Tryz.zeroValue3
 t4:=Tryz.underlying4
 a4:=Tryz.isAgg4
 z4:=Tryz.sizeOf4
 v4:=Tryz.zeroValue4
 t5:=Tryz.underlying5
 a5:=Tryz.isAgg5
 z5:=Tryz.sizeOf5
 v5:=Tryz.zeroValue5
 t9:=Tryz.underlying9
 a9:=Tryz.isAgg9
 z9:=Tryz.sizeOf9
 v9:=Tryz.zeroValue9
 t20:=Tryz.underlying20
 a20:=Tryz.isAgg20
 z20:=Tryz.sizeOf20
 v20:=Tryz.zeroValue20
 t21:=Tryz.underlying21
 a21:=Tryz.isAgg21
 z21:=Tryz.sizeOf21
 v21:=Tryz.zeroValue21
 t37:=Tryz.underlying22
 a37:=Tryz.isAgg22
 z37:=Tryz.sizeOf22
 v37:=Tryz.zeroValue22
 t46:=Tryz.underlying222
 a46:=Tryz.isAgg222
 z46:=Tryz.sizeOf222
 v46:=Tryz.zeroValue222
 t51:=Tryz.underlying295
 a51:=Tryz.isAgg295
 z51:=Tryz.sizeOf295
 v51:=Tryz.zeroValue295
 t53:=Tryz.underlying282
 a53:=Tryz.isAgg282
 z53:=Tryz.sizeOf282
 v53:=Tryz.zeroValue282
 t75:=Tryz.underlying110
 a75:=Tryz.isAgg110
 z75:=Tryz.sizeOf110
 v75:=Tryz.zeroValue110
 t76:=Tryz.underlying111
 a76:=Tryz.isAgg111
 z76:=Tryz.sizeOf111
 v76:=Tryz.zeroValue111
 t85:=Tryz.underlying303
 a85:=Tryz.isAgg303
 z85:=Tryz.sizeOf303
 v85:=Tryz.zeroValue303
 t127:=Tryz.underlying174
 a127:=Tryz.isAgg174
 z127:=Tryz.sizeOf174
 v127:=Tryz.zeroValue174
 t143:=Tryz.underlying370
 a143:=Tryz.isAgg370
 z143:=Tryz.sizeOf370
 v143:=Tryz.zeroValue370
 t145:=Tryz.underlying372
 a145:=Tryz.isAgg372
 z145:=Tryz.sizeOf372
 v145:=Tryz.zeroValue372
 t167:=Tryz.underlying302
 a167:=Tryz.isAgg302
 z167:=Tryz.sizeOf302
 v167:=Tryz.zeroValue302
 t168:=Tryz.underlying305
 a168:=Tryz.isAgg305
 z168:=Tryz.sizeOf305
 v168:=Tryz.zeroValue305
 t171:=Tryz.underlying281
 a171:=Tryz.isAgg281
 z171:=Tryz.sizeOf281
 v171:=Tryz.zeroValue281
 t173:=Tryz.underlying285
 a173:=Tryz.isAgg285
 z173:=Tryz.sizeOf285
 v173:=Tryz.zeroValue285
 t175:=Tryz.underlying346
 a175:=Tryz.isAgg346
 z175:=Tryz.sizeOf346
 v175:=Tryz.zeroValue346
 t210:=Tryz.underlying350
 a210:=Tryz.isAgg350
 z210:=Tryz.sizeOf350
 v210:=Tryz.zeroValue350
 t212:=Tryz.underlying329
 a212:=Tryz.isAgg329
 z212:=Tryz.sizeOf329
 v212:=Tryz.zeroValue329
 t213:=Tryz.underlying330
 a213:=Tryz.isAgg330
 z213:=Tryz.sizeOf330
 t232:=Tryz.underlying377
 a232:=Tryz.isAgg377
 z232:=Tryz.sizeOf377
 v232:=Tryz.zeroValue377
 t233:=Tryz.underlying378
 a233:=Tryz.isAgg378
 z233:=Tryz.sizeOf378
 v233:=Tryz.zeroValue378
 g15:=by kernel_rfl
 g16:=by kernel_rfl
 g17:=by kernel_rfl
 g18:=by kernel_rfl
 g19:=by kernel_rfl
 t80:=Tryz.underlying113
 a80:=Tryz.isAgg113
 z80:=Tryz.sizeOf113
 v80:=Tryz.zeroValue113
 i0:=by kernel_rfl
 i2:=by kernel_rfl
 i3:=by kernel_rfl
 i4:=by kernel_rfl
 i5:=by kernel_rfl
 i9:=by kernel_rfl
 i20:=by kernel_rfl
 i21:=by kernel_rfl
 i37:=by kernel_rfl
 i46:=by kernel_rfl
 i51:=by kernel_rfl
 i53:=by kernel_rfl
 i75:=by kernel_rfl
 i76:=by kernel_rfl
 i80:=by kernel_rfl
 i85:=by kernel_rfl
 i127:=by kernel_rfl
 i143:=by kernel_rfl
 i145:=by kernel_rfl
 i167:=by kernel_rfl
 i168:=by kernel_rfl
 i171:=by kernel_rfl
 i173:=by kernel_rfl
 i175:=by kernel_rfl
 i210:=by kernel_rfl
 i212:=by kernel_rfl
 i232:=by kernel_rfl
 i233:=by kernel_rfl
 m15:=by kernel_rfl
 m16:=by kernel_rfl
 m17:=by kernel_rfl
 m18:=by kernel_rfl
 m19:=by kernel_rfl
 c0:=by kernel_rfl
 c2:=by kernel_rfl
 c3:=by kernel_rfl
 c4:=by kernel_rfl
 c5:=by kernel_rfl
 c9:=by kernel_rfl
 c20:=by kernel_rfl
 c21:=by kernel_rfl
 c37:=by kernel_rfl
 c46:=by kernel_rfl
 c51:=by kernel_rfl
 c53:=by kernel_rfl
 c75:=by kernel_rfl
 c76:=by kernel_rfl
 c80:=by kernel_rfl
 c85:=by kernel_rfl
 c127:=by kernel_rfl
 c143:=by kernel_rfl
 c145:=by kernel_rfl
 c167:=by kernel_rfl
 c168:=by kernel_rfl
 c171:=by kernel_rfl
 c173:=by kernel_rfl
 c175:=by kernel_rfl
 c210:=by kernel_rfl
 c212:=by kernel_rfl
 c213:=by kernel_rfl
 c232:=by kernel_rfl
 c233:=by kernel_rfl}
open Go.RowKit in
theorem Tryz.strconv_Atoi_ok(s:ByteArray)(Sw:s.size<=9223372036854775806)(v:Int)(h:Lib.atoiAll s.data.toList=.ok v)(w:World):
 Calls prog 192 #[.string s] w λe w'=>e=.returned (.tuple #[Y1 Y2 v,.nilIface])/\(w'=w\/∃t,w'=Lib.bytesWorld w 5 t):=Any.strconv_Atoi_ok Tryz.C4 s Sw v h w
open Go.RowKit in
theorem Tryz.strconv_Atoi_syntax(s:ByteArray)(Sr:s.size<=281474976710656)(h:Lib.atoiAll s.data.toList=Lib.NumEnd.syntax)(ev:Value)(w:World)(hv:w.cell? ⟨4,0,YX⟩=YW ev)(QT:ev=.nilIface\/∃te pe,ev=.iface te pe):
 Calls prog 192 #[.string s] w λe w'=>∃N,e=.returned (.tuple #[Y1 Y2 (0),.iface 305 (.pointer (YW ⟨N,0,YX⟩))])/\w.heap.size<=N/\w'.heap[N]?=YW (.cells #[.string ⟨#[65,116,111,105]⟩,.string s,ev] 350 (0,0))/\Below w.heap.size w w':=Any.strconv_Atoi_syntax Tryz.C4 s Sr h ev w hv QT
open Go.RowKit in
theorem Tryz.strconv_Atoi_range(s:ByteArray)(Sr:s.size<=281474976710656)(h:Lib.atoiAll s.data.toList=.range)(ev:Value)(w:World)(hv:w.cell? ⟨5,0,YX⟩=YW ev)(QT:ev=.nilIface\/∃te pe,ev=.iface te pe):
 Calls prog 192 #[.string s] w λe w'=>∃N,e=.returned (.tuple #[Y1 Y2 (Lib.atoiSat s.data.toList),.iface 305 (.pointer (YW ⟨N,0,YX⟩))])/\w.heap.size<=N/\w'.heap[N]?=YW (.cells #[.string ⟨#[65,116,111,105]⟩,.string s,ev] 350 (0,0))/\Below w.heap.size w w':=Any.strconv_Atoi_range Tryz.C4 s Sr h ev w hv QT
def Tryz.Jo:WQ:=⟨λ|145=>120|220=>190|219=>241|217=>300|225=>301|224=>302|267=>303|266=>352|314=>353|n=>n,λ|9=>9|4=>4|59=>176|3=>3|5=>5|46=>222|146=>324|51=>295|n=>n,λ|1=>0|n=>n⟩
theorem Tryz.Zau:Go.Proofs.Lays.n145 prog Tryz.Jo:={
 mixed:=by kernel_rfl
 f145:=func120.trans (congrArg YW Yp)
 f217:=func300.trans (congrArg YW Yp)
 f219:=func241.trans (congrArg YW Yp)
 f220:=func190.trans (congrArg YW Yp)
 f224:=func302.trans (congrArg YW Yp)
 f225:=func301.trans (congrArg YW Yp)
 f266:=func352.trans (congrArg YW Yp)
 f267:=func303.trans (congrArg YW Yp)
 f314:=func353.trans (congrArg YW Yp)
 t3:=Tryz.underlying3
 a3:=Tryz.isAgg3
 z3:=Tryz.sizeOf3
 v3:=Tryz.zeroValue3
 t4:=Tryz.underlying4
 a4:=Tryz.isAgg4
 z4:=Tryz.sizeOf4
 v4:=Tryz.zeroValue4
 t5:=Tryz.underlying5
 a5:=Tryz.isAgg5
 z5:=Tryz.sizeOf5
 v5:=Tryz.zeroValue5
 t9:=Tryz.underlying9
 a9:=Tryz.isAgg9
 z9:=Tryz.sizeOf9
 v9:=Tryz.zeroValue9
 t46:=Tryz.underlying222
 a46:=Tryz.isAgg222
 z46:=Tryz.sizeOf222
 v46:=Tryz.zeroValue222
 t51:=Tryz.underlying295
 a51:=Tryz.isAgg295
 z51:=Tryz.sizeOf295
 v51:=Tryz.zeroValue295
 t59:=Tryz.underlying176
 a59:=Tryz.isAgg176
 z59:=Tryz.sizeOf176
 v59:=Tryz.zeroValue176
 t146:=Tryz.underlying324
 a146:=Tryz.isAgg324
 z146:=Tryz.sizeOf324
 v146:=Tryz.zeroValue324
 g1:=by kernel_rfl}
open Go.RowKit Go.Lib in
theorem Tryz.strings_Cut(s sep:ByteArray)(m:Int)(w:World)(hs:s.size<4294967281)(hm:w.cell? ⟨0,0,YX⟩=YW (Y1 Y2 m)):
 Calls prog 120 #[.string s,.string sep] w λe w'=>e=.returned (.tuple #[.string ⟨(Lib.cut s.data.toList sep.data.toList).1.toArray⟩,.string ⟨(Lib.cut s.data.toList sep.data.toList).2.1.toArray⟩,.bool (Lib.cut s.data.toList sep.data.toList).2.2])/\∃n,w'=w.drewN n:=Any.strings_Cut Tryz.Zau s sep m w hs hm
def Tryz.Jr:WQ:=⟨λ|192=>156|190=>206|125=>212|258=>256|128=>275|129=>276|302=>323|303=>324|304=>325|305=>326|306=>327|307=>328|308=>329|309=>330|310=>331|333=>368|329=>341|330=>342|334=>369|335=>370|336=>371|344=>389|n=>n,λ|31=>114|0=>0|9=>9|3=>3|46=>222|51=>295|53=>282|4=>4|183=>289|182=>288|131=>95|5=>5|218=>332|222=>336|228=>363|229=>364|n=>n,λ|n=>n⟩
theorem Tryz.Zay:Go.Proofs.Lays.n192 prog Tryz.Jr:={
 mixed:=by kernel_rfl
 f125:=func212.trans (congrArg YW Yp)
 f128:=func275.trans (congrArg YW Yp)
 f129:=func276.trans (congrArg YW Yp)
 f190:=func206.trans (congrArg YW Yp)
 f192:=func156.trans (congrArg YW Yp)
 f258:=func256.trans (congrArg YW Yp)
 f302:=func323.trans (congrArg YW Yp)
 f303:=func324.trans (congrArg YW Yp)
 f304:=func325.trans (congrArg YW Yp)
 f305:=func326.trans (congrArg YW Yp)
 f306:=func327.trans (congrArg YW Yp)
 f307:=func328.trans (congrArg YW Yp)
 f308:=func329.trans (congrArg YW Yp)
 f309:=func330.trans (congrArg YW Yp)
 f310:=func331.trans (congrArg YW Yp)
 f329:=func341.trans (congrArg YW Yp)
 f330:=func342.trans (congrArg YW Yp)
 f333:=func368.trans (congrArg YW Yp)
 f334:=func369.trans (congrArg YW Yp)
 f335:=func370.trans (congrArg YW Yp)
 f336:=func371.trans (congrArg YW Yp)
 f344:=func389.trans (congrArg YW Yp)
 t0:=Tryz.underlying0
 a0:=Tryz.isAgg0
 z0:=Tryz.sizeOf0
 v0:=Tryz.zeroValue0
 t3:=Tryz.underlying3
 a3:=Tryz.isAgg3
 z3:=Tryz.sizeOf3
 v3:=Tryz.zeroValue3
 t4:=Tryz.underlying4
 a4:=Tryz.isAgg4
 z4:=Tryz.sizeOf4
 v4:=Tryz.zeroValue4
 t5:=Tryz.underlying5
 a5:=Tryz.isAgg5
 z5:=Tryz.sizeOf5
 v5:=Tryz.zeroValue5
 t9:=Tryz.underlying9
 a9:=Tryz.isAgg9
 z9:=Tryz.sizeOf9
 v9:=Tryz.zeroValue9
 t31:=Tryz.underlying114
 a31:=Tryz.isAgg114
 z31:=Tryz.sizeOf114
 v31:=Tryz.zeroValue114
 t46:=Tryz.underlying222
 a46:=Tryz.isAgg222
 z46:=Tryz.sizeOf222
 v46:=Tryz.zeroValue222
 t51:=Tryz.underlying295
 a51:=Tryz.isAgg295
 z51:=Tryz.sizeOf295
 v51:=Tryz.zeroValue295
 t53:=Tryz.underlying282
 a53:=Tryz.isAgg282
 z53:=Tryz.sizeOf282
 v53:=Tryz.zeroValue282
 t131:=Tryz.underlying95
 a131:=Tryz.isAgg95
 z131:=Tryz.sizeOf95
 v131:=Tryz.zeroValue95
 t182:=Tryz.underlying288
 a182:=Tryz.isAgg288
 z182:=Tryz.sizeOf288
 v182:=Tryz.zeroValue288
 t183:=Tryz.underlying289
 a183:=Tryz.isAgg289
 z183:=Tryz.sizeOf289
 v183:=Tryz.zeroValue289
 t218:=Tryz.underlying332
 a218:=Tryz.isAgg332
 z218:=Tryz.sizeOf332
 v218:=Tryz.zeroValue332
 t222:=Tryz.underlying336
 a222:=Tryz.isAgg336
 z222:=Tryz.sizeOf336
 v222:=Tryz.zeroValue336
 t228:=Tryz.underlying363
 a228:=Tryz.isAgg363
 z228:=Tryz.sizeOf363
 v228:=Tryz.zeroValue363
 t229:=Tryz.underlying364
 a229:=Tryz.isAgg364
 z229:=Tryz.sizeOf364
 v229:=Tryz.zeroValue364}
open Go.Sort Go.RowKit in
theorem Tryz.sort_Strings(nJ off cap:Nat)(ss:List (List UInt8))(w:World)(hH:Holds encStr w nJ off ss.toArray)(yk:nJ<w.heap.size)(uV:ss.length<4611686018427387904):
 Calls prog 156 #[.slice (YW ⟨nJ,off,YX⟩) ss.length cap] w λe w'=>
  e=.returned (.tuple #[])/\∃n os,w'=grow (putRow encStr (Sort.ahead w n) nJ off (ss.mergeSort λx y=>Y0 (x<=y)).toArray) os:=Any.sort_Strings Tryz.Zay nJ off cap ss w hH yk uV
def Tryz.vJ:WQ:=⟨λ|8=>200|13=>251|14=>252|16=>254|15=>253|29=>320|30=>321|42=>365|49=>388|n=>n,λ|20=>20|26=>238|36=>266|0=>0|38=>268|42=>272|3=>3|4=>4|47=>222|17=>17|33=>225|34=>264|89=>393|12=>12|56=>295|82=>387|5=>5|83=>388|84=>389|85=>174|86=>390|87=>391|n=>n,λ|n=>n⟩
theorem Tryz.Gm:Go.Proofs.LaysGt.n8 prog Tryz.vJ:={
 mixed:=by kernel_rfl
 f8:=func200.trans (congrArg YW Yp)
 f13:=func251.trans (congrArg YW Yp)
 f14:=func252.trans (congrArg YW Yp)
 f15:=func253.trans (congrArg YW Yp)
 f16:=func254.trans (congrArg YW Yp)
 f29:=func320.trans (congrArg YW Yp)
 f30:=func321.trans (congrArg YW Yp)
 f42:=func365.trans (congrArg YW Yp)
 f49:=func388.trans (congrArg YW Yp)
 t0:=Tryz.underlying0
 a0:=Tryz.isAgg0
 z0:=Tryz.sizeOf0
 v0:=Tryz.zeroValue0
 i0:=by kernel_rfl
 t3:=Tryz.underlying3
 a3:=Tryz.isAgg3
 z3:=Tryz.sizeOf3
 v3:=Tryz.zeroValue3
 i3:=by kernel_rfl
 t4:=Tryz.underlying4
 a4:=Tryz.isAgg4
 z4:=Tryz.sizeOf4
 v4:=Tryz.zeroValue4
 i4:=by kernel_rfl
 t5:=Tryz.underlying5
 a5:=Tryz.isAgg5
 z5:=Tryz.sizeOf5
 v5:=Tryz.zeroValue5
 i5:=by kernel_rfl
 t12:=Tryz.underlying12
 a12:=Tryz.isAgg12
 z12:=Tryz.sizeOf12
 v12:=Tryz.zeroValue12
 i12:=by kernel_rfl
 t17:=Tryz.underlying17
 a17:=Tryz.isAgg17
 z17:=Tryz.sizeOf17
 v17:=Tryz.zeroValue17
 i17:=by kernel_rfl
 t20:=Tryz.underlying20
 a20:=Tryz.isAgg20
 z20:=Tryz.sizeOf20
 v20:=Tryz.zeroValue20
 i20:=by kernel_rfl
 t26:=Tryz.underlying238
 a26:=Tryz.isAgg238
 z26:=Tryz.sizeOf238
 v26:=Tryz.zeroValue238
 i26:=by kernel_rfl
 t33:=Tryz.underlying225
 a33:=Tryz.isAgg225
 z33:=Tryz.sizeOf225
 v33:=Tryz.zeroValue225
 i33:=by kernel_rfl
 t34:=Tryz.underlying264
 a34:=Tryz.isAgg264
 z34:=Tryz.sizeOf264
 v34:=Tryz.zeroValue264
 i34:=by kernel_rfl
 t36:=Tryz.underlying266
 a36:=Tryz.isAgg266
 z36:=Tryz.sizeOf266
 v36:=Tryz.zeroValue266
 i36:=by kernel_rfl
 t38:=Tryz.underlying268
 a38:=Tryz.isAgg268
 z38:=Tryz.sizeOf268
 v38:=Tryz.zeroValue268
 i38:=by kernel_rfl
 t42:=Tryz.underlying272
 a42:=Tryz.isAgg272
 z42:=Tryz.sizeOf272
 v42:=Tryz.zeroValue272
 i42:=by kernel_rfl
 t47:=Tryz.underlying222
 a47:=Tryz.isAgg222
 z47:=Tryz.sizeOf222
 v47:=Tryz.zeroValue222
 i47:=by kernel_rfl
 t56:=Tryz.underlying295
 a56:=Tryz.isAgg295
 z56:=Tryz.sizeOf295
 v56:=Tryz.zeroValue295
 i56:=by kernel_rfl
 t82:=Tryz.underlying387
 a82:=Tryz.isAgg387
 z82:=Tryz.sizeOf387
 v82:=Tryz.zeroValue387
 i82:=by kernel_rfl
 t83:=Tryz.underlying388
 a83:=Tryz.isAgg388
 z83:=Tryz.sizeOf388
 v83:=Tryz.zeroValue388
 i83:=by kernel_rfl
 t84:=Tryz.underlying389
 a84:=Tryz.isAgg389
 z84:=Tryz.sizeOf389
 v84:=Tryz.zeroValue389
 i84:=by kernel_rfl
 t85:=Tryz.underlying174
 a85:=Tryz.isAgg174
 z85:=Tryz.sizeOf174
 v85:=Tryz.zeroValue174
 i85:=by kernel_rfl
 t86:=Tryz.underlying390
 a86:=Tryz.isAgg390
 z86:=Tryz.sizeOf390
 v86:=Tryz.zeroValue390
 i86:=by kernel_rfl
 t87:=Tryz.underlying391
 a87:=Tryz.isAgg391
 z87:=Tryz.sizeOf391
 v87:=Tryz.zeroValue391
 i87:=by kernel_rfl
 t89:=Tryz.underlying393
 a89:=Tryz.isAgg393
 z89:=Tryz.sizeOf393
 v89:=Tryz.zeroValue393
 i89:=by kernel_rfl}
def Tryz.Jp:WQ:=⟨λ|146=>60|221=>119|268=>187|138=>188|143=>189|195=>238|197=>239|218=>240|219=>241|260=>299|217=>300|225=>301|224=>302|267=>303|266=>352|314=>353|n=>n,λ|9=>9|31=>114|3=>3|4=>4|0=>0|105=>253|21=>21|5=>5|46=>222|119=>341|139=>344|138=>343|146=>324|51=>295|n=>n,λ|1=>0|3=>2|4=>3|n=>n⟩
theorem Tryz.Zav:Go.Proofs.Lays.n146 prog Tryz.Jp:={
 mixed:=by kernel_rfl
 f138:=func188.trans (congrArg YW Yp)
 f143:=func189.trans (congrArg YW Yp)
 f146:=func60.trans (congrArg YW Yp)
 f195:=func238.trans (congrArg YW Yp)
 f197:=func239.trans (congrArg YW Yp)
 f217:=func300.trans (congrArg YW Yp)
 f218:=func240.trans (congrArg YW Yp)
 f219:=func241.trans (congrArg YW Yp)
 f221:=func119.trans (congrArg YW Yp)
 f224:=func302.trans (congrArg YW Yp)
 f225:=func301.trans (congrArg YW Yp)
 f260:=func299.trans (congrArg YW Yp)
 f266:=func352.trans (congrArg YW Yp)
 f267:=func303.trans (congrArg YW Yp)
 f268:=func187.trans (congrArg YW Yp)
 f314:=func353.trans (congrArg YW Yp)
 t0:=Tryz.underlying0
 a0:=Tryz.isAgg0
 z0:=Tryz.sizeOf0
 v0:=Tryz.zeroValue0
 t3:=Tryz.underlying3
 a3:=Tryz.isAgg3
 z3:=Tryz.sizeOf3
 v3:=Tryz.zeroValue3
 t4:=Tryz.underlying4
 a4:=Tryz.isAgg4
 z4:=Tryz.sizeOf4
 v4:=Tryz.zeroValue4
 t5:=Tryz.underlying5
 a5:=Tryz.isAgg5
 z5:=Tryz.sizeOf5
 v5:=Tryz.zeroValue5
 t9:=Tryz.underlying9
 a9:=Tryz.isAgg9
 z9:=Tryz.sizeOf9
 v9:=Tryz.zeroValue9
 t21:=Tryz.underlying21
 a21:=Tryz.isAgg21
 z21:=Tryz.sizeOf21
 v21:=Tryz.zeroValue21
 t31:=Tryz.underlying114
 a31:=Tryz.isAgg114
 z31:=Tryz.sizeOf114
 v31:=Tryz.zeroValue114
 t46:=Tryz.underlying222
 a46:=Tryz.isAgg222
 z46:=Tryz.sizeOf222
 v46:=Tryz.zeroValue222
 t51:=Tryz.underlying295
 a51:=Tryz.isAgg295
 z51:=Tryz.sizeOf295
 v51:=Tryz.zeroValue295
 t105:=Tryz.underlying253
 a105:=Tryz.isAgg253
 z105:=Tryz.sizeOf253
 v105:=Tryz.zeroValue253
 t119:=Tryz.underlying341
 a119:=Tryz.isAgg341
 z119:=Tryz.sizeOf341
 t138:=Tryz.underlying343
 a138:=Tryz.isAgg343
 z138:=Tryz.sizeOf343
 v138:=Tryz.zeroValue343
 t139:=Tryz.underlying344
 a139:=Tryz.isAgg344
 z139:=Tryz.sizeOf344
 v139:=Tryz.zeroValue344
 t146:=Tryz.underlying324
 a146:=Tryz.isAgg324
 z146:=Tryz.sizeOf324
 v146:=Tryz.zeroValue324
 g1:=by kernel_rfl
 g3:=by kernel_rfl
 g4:=by kernel_rfl}
open Go.RowKit Go.Lib in
theorem Tryz.strings_Split(s sep:ByteArray)(m:Int)(w:World)(hs:s.size<4294967281)(hm:w.cell? ⟨0,0,YX⟩=YW (Y1 Y2 m))(h1:1<=sep.size):
 Calls prog 60 #[.string s,.string sep] w λe w'=>
  e=.returned (.slice (YW ⟨w.heap.size,0,YX⟩) (Lib.countB s sep+1) (Lib.countB s sep+1))/\w'=w.alloc (.cells ((Lib.splitB sep 0 (Lib.countB s sep) s).map Value.string).toArray 9):=Any.strings_Split Tryz.Zav Yp s sep m w hs hm h1
def Tryz.AM:WQ:=⟨λ|105=>207|212=>257|99=>258|165=>259|166=>57|170=>260|169=>58|263=>332|264=>333|206=>334|240=>116|241=>335|276=>185|277=>372|n=>n,λ|9=>9|3=>3|4=>4|20=>20|0=>0|46=>222|109=>276|5=>5|72=>108|76=>111|51=>295|146=>324|53=>282|148=>326|70=>106|37=>22|75=>110|127=>174|164=>225|80=>113|n=>n,λ|n=>n⟩
theorem Tryz.Zas:Go.Proofs.Lays.n105 prog Tryz.AM:={
 mixed:=by kernel_rfl
 f99:=func258.trans (congrArg YW Yp)
 f105:=func207.trans (congrArg YW Yp)
 f165:=func259.trans (congrArg YW Yp)
 f166:=func57.trans (congrArg YW Yp)
 f169:=func58.trans (congrArg YW Yp)
 f170:=func260.trans (congrArg YW Yp)
 f206:=func334.trans (congrArg YW Yp)
 f212:=func257.trans (congrArg YW Yp)
 f240:=func116.trans (congrArg YW Yp)
 f241:=func335.trans (congrArg YW Yp)
 f263:=func332.trans (congrArg YW Yp)
 f264:=func333.trans (congrArg YW Yp)
 f276:=func185.trans (congrArg YW Yp)
 f277:=func372.trans (congrArg YW Yp)
 t0:=Tryz.underlying0
 a0:=Tryz.isAgg0
 z0:=Tryz.sizeOf0
 v0:=Tryz.zeroValue0
 t3:=Tryz.underlying3
 a3:=Tryz.isAgg3
 z3:=Tryz.sizeOf3
 v3:=Tryz.zeroValue3
 t4:=Tryz.underlying4
 a4:=Tryz.isAgg4
 z4:=Tryz.sizeOf4
 v4:=Tryz.zeroValue4
 t5:=Tryz.underlying5
 a5:=Tryz.isAgg5
 z5:=Tryz.sizeOf5
 v5:=Tryz.zeroValue5
 t9:=Tryz.underlying9
 a9:=Tryz.isAgg9
 z9:=Tryz.sizeOf9
 v9:=Tryz.zeroValue9
 t20:=Tryz.underlying20
 a20:=Tryz.isAgg20
 z20:=Tryz.sizeOf20
 v20:=Tryz.zeroValue20
 t37:=Tryz.underlying22
 a37:=Tryz.isAgg22
 z37:=Tryz.sizeOf22
 v37:=Tryz.zeroValue22
 t46:=Tryz.underlying222
 a46:=Tryz.isAgg222
 z46:=Tryz.sizeOf222
 v46:=Tryz.zeroValue222
 t51:=Tryz.underlying295
 a51:=Tryz.isAgg295
 z51:=Tryz.sizeOf295
 v51:=Tryz.zeroValue295
 t53:=Tryz.underlying282
 a53:=Tryz.isAgg282
 z53:=Tryz.sizeOf282
 v53:=Tryz.zeroValue282
 t70:=Tryz.underlying106
 a70:=Tryz.isAgg106
 z70:=Tryz.sizeOf106
 v70:=Tryz.zeroValue106
 t72:=Tryz.underlying108
 a72:=Tryz.isAgg108
 z72:=Tryz.sizeOf108
 v72:=Tryz.zeroValue108
 t75:=Tryz.underlying110
 a75:=Tryz.isAgg110
 z75:=Tryz.sizeOf110
 v75:=Tryz.zeroValue110
 t76:=Tryz.underlying111
 a76:=Tryz.isAgg111
 z76:=Tryz.sizeOf111
 v76:=Tryz.zeroValue111
 t109:=Tryz.underlying276
 a109:=Tryz.isAgg276
 z109:=Tryz.sizeOf276
 v109:=Tryz.zeroValue276
 t127:=Tryz.underlying174
 a127:=Tryz.isAgg174
 z127:=Tryz.sizeOf174
 v127:=Tryz.zeroValue174
 t146:=Tryz.underlying324
 a146:=Tryz.isAgg324
 z146:=Tryz.sizeOf324
 v146:=Tryz.zeroValue324
 t148:=Tryz.underlying326
 a148:=Tryz.isAgg326
 z148:=Tryz.sizeOf326
 v148:=Tryz.zeroValue326
 t164:=Tryz.underlying225
 a164:=Tryz.isAgg225
 z164:=Tryz.sizeOf225
 v164:=Tryz.zeroValue225}
theorem Tryz.xO:Builder.Extra prog Tryz.AM:={
 sizeBuilder:=by kernel_rfl
 liesBuilder:=by kernel_rfl
 t5:=Tryz.underlying5
 a5:=Tryz.isAgg5
 z5:=Tryz.sizeOf5
 v5:=Tryz.zeroValue5
 infoByte:=by kernel_rfl
 cellsByte:=by kernel_rfl
 sizeByte:=by kernel_rfl
 neB5:=by decide}
open Go.RowKit Go.Lib in
theorem Tryz.strings_Repeat(s:ByteArray)(c:Nat)(w:World)(hc:c<=9223372036854775807)(hlen:s.size*c<=140737488355328):
 Calls prog 207 #[.string s,Y1 Y2 c] w λe w'=>e=.returned (.string ⟨(Lib.repeatL s.data.toList c).toArray⟩)/\Below w.heap.size w w':=Any.strings_Repeat Tryz.Zas Tryz.xO s c w hc hlen
end Go.Proofs
namespace Go.Proofs.YtdilaemengjipaaGreatDoor
set_option maxRecDepth 10000
open Go.RowKit
set_option maxRecDepth 100000
abbrev RP(b:Nat):Value:=.pointer (YW ⟨b,0,YX⟩)
theorem N2(w:World)(b f:Nat)(sv:Value)(nm:String)(h:w.cell? ⟨b,0,YX⟩=YW (.iface 261 sv))
 (hm:(((prog.info? 309).bind λi=>i.methods.find? (·.name==nm)).map λm=>(m.path,m.func))=YW (#[⟨311,0,YY⟩],YX))
 (hi:Sem.run prog (method (prog.types.size+99) 261 sv nm) w=.ok (f,sv) w):
 Sem.run prog (method (prog.types.size+100) 309 (RP b) nm) w=.ok (f,sv) w:=by
 obtain⟨m,I2,AE⟩:=Wb.1 hm;obtain⟨i,nj,Ec⟩:=X9.1 I2;have SF:m.path=#[⟨311,0,YY⟩]:=congrArg Prod.fst AE;have hfu:m.func=none:=congrArg Prod.snd AE;have u:=run_underlying Tryz.underlying311;unfold method;have hl:Sem.run prog (Sem.load Mode.plain ({ block:=b,off:=0}:Addr) Sem.pure) w=.ok (.iface 261 sv) w:=by
  simp[Sem.run,h]
 simp[typeInfo,nj,Ec,SF,hfu,follow,Place.get,u,asAddr,loadVar,isAgg,load,h,fieldPlace];rw[show({ block:=b,off:=0}:Addr).add 0={ block:=b,off:=0}from rfl,hl];exact hi
theorem T3(w:World)(b:Nat)(sv:Value)(h:w.cell? ⟨b,0,YX⟩=YW (.iface 261 sv)):
 Sem.run prog (method (prog.types.size + 100) 309 (RP b) "Less") w = .ok (416, .agg #[.iface 261 sv]) w := by
 have hm : (((prog.info? 309).bind λi => i.methods.find? (·.name == "Less")).map λm => (m.path, m.func)) = YW (#[], YW (416, YZ)) := by kernel_rfl
 obtain⟨m,I2,AE⟩:=Wb.1 hm;obtain⟨i,nj,Ec⟩:=X9.1 I2;have SF:m.path=#[]:=congrArg Prod.fst AE;have hfu:m.func=YW (416,YZ):=congrArg Prod.snd AE;have u:=run_underlying Tryz.underlying309;have u2:=run_underlying Tryz.underlying311;unfold method;have sR:Sem.run prog (loadVar 311 ⟨b,0,YX⟩) w=.ok (.agg #[.iface 261 sv]) w:=by
  have a1:=Tryz.isAgg311;have a2:=Tryz.sizeOf311;have hl:Sem.run prog (Sem.load Mode.plain ({ block:=b,off:=0}:Addr) Sem.pure) w=.ok (.iface 261 sv) w:=by
   simp[Sem.run,h]
  unfold loadVar loadCells;simp[a1,a2,loadCellsFrom,load];rw[show({ block:=b,off:=0}:Addr).add 0={ block:=b,off:=0}from rfl,hl];rfl
 have hk:∀(x y:ByteArray) (w:World),Sem.run prog (Builtin.ssaWrapNilChk_ #[309] 309 #[RP b,.string x,.string y]) w=.ok (RP b) w:=λ_ _ _=>rfl
 have hf:Sem.run prog (follow [] 309 (Place.val (RP b))) w=.ok (309,Place.val (RP b)) w:=rfl;have hr:∀x,Sem.run prog (receiverAt 309 (Place.val (RP b)) YZ (YW x)) w=.ok (.agg #[.iface 261 sv]) w:=by
  intro x;unfold receiverAt;simp[u,Place.get,strVal,hk,asAddr,sR]
 simp[typeInfo,nj,Ec,SF,hfu,hf,hr]
open Go.Lib Go.Sort
abbrev SV(nJ off n c:Nat):Value:=.slice (YW ⟨nJ,off,YX⟩) n c
theorem Zdl (nJ off n c : Nat) (w : World) : Sem.run prog (method (prog.types.size + 99) 261 (SV nJ off n c) "Len") w = .ok (409, SV nJ off n c) w := by kernel_rfl
theorem Zal (nJ off n c : Nat) (w : World) : Sem.run prog (method (prog.types.size + 99) 261 (SV nJ off n c) "Swap") w = .ok (412, SV nJ off n c) w := by kernel_rfl
theorem Zak (nJ off n c : Nat) (w : World) : Sem.run prog (method (prog.types.size + 100) 261 (SV nJ off n c) "Less") w = .ok (410, SV nJ off n c) w := by kernel_rfl
theorem SS(nJ off c size:Nat)(W:World)(G:Nat->Int)(hc:∀t,t<size->W.cell? ⟨nJ,off+t,YX⟩=YW (Y1 Y2 (G t)))(i j:Nat)(hi:i<size)(hj:j<size)(_hsz:size<4611686018427387904):
 Calls prog 410 #[SV nJ off size c,Y1 Y2 i,Y1 Y2 j] W λe w'=>e=.returned (.bool (Y0 (G i<G j)))/\∃q,w'=W.drewN q:=by
 have ci:=hc i hi;have cj:=hc j hj
 go_enter func410,ntmps410
 go_wp2
 go_quiet (fail)
 go_wp2
 go_ret
 exact⟨rfl,nq,rfl⟩
theorem SX(nJ off c size:Nat)(W:World)(x y:Int)(i j:Nat)(hi:i<size)(hj:j<size)(_hsz:size<4611686018427387904)
 (ci:W.cell? ⟨nJ,off+i,YX⟩=YW (Y1 Y2 x)) (cj:W.cell? ⟨nJ,off+j,YX⟩=YW (Y1 Y2 y)) (fi:W.frozen? ⟨nJ,off+i,YX⟩=YZ) (fj:W.frozen? ⟨nJ,off+j,YX⟩=YZ):
 Calls prog 412 #[SV nJ off size c,Y1 Y2 i,Y1 Y2 j] W λe w'=>e=.returned (.tuple #[])/\∃q,w'=((W.setCell ⟨nJ,off+i,YX⟩ (Y1 Y2 y)).setCell ⟨nJ,off+j,YX⟩ (Y1 Y2 x)).drewN q:=by
 obtain⟨v',hy'⟩:=cell?_setCell_some (w:=W) (p:=⟨nJ,off+i,YX⟩) (x:=Y1 Y2 y) (q:=⟨nJ,off+j,YX⟩) cj
 go_enter func412,ntmps412
 go_wp2
 go_region
 all_goals(try go_wp2)
 all_goals go_end0
 all_goals exact⟨rfl,1,rfl⟩
theorem Zam(nJ off c size:Nat)(W:World):Calls prog 409 #[SV nJ off size c] W λe w'=>e=.returned (Y1 Y2 size)/\w'=W:=by
 go_enter func409,ntmps409
 go_wp2
 go_ret
 simp
theorem TZ(nJ off c size:Nat)(W:World)(G:Nat->Int)(hc:∀t,t<size->W.cell? ⟨nJ,off+t,YX⟩=YW (Y1 Y2 (G t)))(hb:nJ<W.heap.size)(i j:Nat)(hi:i<size)(hj:j<size)(uV:size<4611686018427387904):
 Calls prog 416 #[.agg #[.iface 261 (SV nJ off size c)],Y1 Y2 i,Y1 Y2 j] W λe w'=>e=.returned (.bool (Y0 (G j<G i)))/\∃o q,w'=(W.alloc o).drewN q:=by
 have mL:=Zak nJ off size c;have eL:∀args w,(callFunc 410 args).run prog w=.ok (.enter 410 args) w:=enters_of func410 Yp rfl;simp at mL
 have hl:∀o,Calls prog 410 #[SV nJ off size c,Y1 Y2 j,Y1 Y2 i] (W.alloc o) λe w'=>e=.returned (.bool (Y0 (G j<G i)))/\∃q,w'=(W.alloc o).drewN q:=λo=>
  SS nJ off c size _ G (λt ht=>(Below.cell (Up.al o (Up.rfl' W)) (p:=⟨nJ,off+t,YX⟩) hb).trans (hc t ht)) j i hj hi uV
 go_enter func416,ntmps416
 go_wp2_with (go_at_fn 410;refine(hl _).mono ?_;rintro e w' ⟨rfl,q,rfl⟩)
 go_ret
 exact⟨rfl,_,q,rfl⟩
theorem SW.ZbX{w0 W:World}{nJ off:Nat}{dk:Array Int}(h:SW (Value.int .i64) w0 nJ off dk W){b o:Nat}(hb:b<w0.heap.size)(gZ:b≠nJ):W.cell? ⟨b,o,YX⟩=w0.cell? ⟨b,o,YX⟩:=by
 obtain⟨n,os,rfl⟩:=h;unfold sortWorld;rw[cell?_grow _ _ _ Yv,cell?_putRow_other _ _ _ _ _ _ (.inl gZ)];rfl
def AA(x y:Int):Bool:=Y0 (y<x)
theorem Zai(nJ off c b bR:Nat)(d:Array Int)(w:World)(hH:Holds (Value.int .i64) w nJ off d)(yk:nJ<w.heap.size)(hR:w.cell? ⟨bR,0,YX⟩=YW (.iface 261 (SV nJ off d.size c)))(hRb:bR<w.heap.size)(gZ:bR≠nJ)
 (CK:0<=b) (hb:b<=d.size) (uV:d.size<4611686018427387904):
 Calls prog 357 #[.iface 309 (RP bR),Y1 Y2 0,Y1 Y2 b] w λe w'=>e=.returned (.tuple #[])/\SW (Value.int .i64) w nJ off (Sort.insertionSort AA d 0 b) w':=by
 have eL:∀args w,(callFunc 416 args).run prog w=.ok (.enter 416 args) w:=enters_of func416 Yp rfl;have eS:∀args w,(callFunc 412 args).run prog w=.ok (.enter 412 args) w:=enters_of func412 Yp rfl
 go_enter func357,ntmps357
 go_wp2
 go_loopw [6] (λvi wr=>∃(i:Nat) (dk:Array Int),vi=Y1 Y2 i/\0<i/\i<=b+1/\dk.size=d.size/\SW (Value.int .i64) w nJ off dk wr/\
  insOuter AA 0 b i dk=insOuter AA 0 b (0+1) d) (λvi _=>b+1-(intOf vi).toNat)
 case atStart=>exact⟨1,d,by rfl,Yn,Yn,rfl,SW.start hH,rfl⟩
 case round=>
  obtain⟨i,dk,rfl,hai,hib,hsk,Hr,hO⟩:=hrel;have HO:Hid (insOuter AA 0 b i dk=insOuter AA 0 b (0+1) d):=hO;clear hO
  go_wp2
  ·go_loopw [7] (λvj wr2=>∃(j:Nat) (dj:Array Int),vj=Y1 Y2 j/\j<=i/\dj.size=d.size/\SW (Value.int .i64) w nJ off dj wr2/\
    insInner AA 0 j dj=insInner AA 0 i dk) (λvj _=>(intOf vj).toNat)
   case atStart=>grind
   case round=>
    obtain⟨j,dj,rfl,Gc,hsj,Bd,hI⟩:=hrel;have bX:i<b:=Yn;have HW:Hid (SW (Value.int .i64) w nJ off dj wr):=Bd;have HI:Hid (insInner AA 0 j dj=insInner AA 0 i dk):=hI;have hHj:=Bd.holds yk hH hsj;have hbw:=Bd.lt yk;have hRw:wr.cell? ⟨bR,0,YX⟩=YW (.iface 261 (SV nJ off d.size c)):=(SW.ZbX Bd hRb gZ).trans hR;clear Bd hI;have out:(j<=0\/AA dj[j]! dj[j-1]! = YZ)->∀W,SW (Value.int .i64) w nJ off dj W->∃(i':Nat) (dk':Array Int),Value.int .i64 ((i:Int)+1)=Y1 Y2 (i':Nat)/\0<i'/\i'<=b+1/\dk'.size=d.size/\
     SW (Value.int .i64) w nJ off dk' W/\insOuter AA 0 b i' dk'=insOuter AA 0 b (0+1) d:=λhs W hW=>
     ⟨i+1,dj,by rfl,Yn,Yn,hsj,hW,
      by rw[<-HO.out,insOuter_go _ _ _ _ _ bX,<-HI.out,insInner_stop _ _ _ _ hs]⟩
    have OUT:Hid _:=out;clear out
    by_cases hja:0<j
    ·have mL:=T3 wr bR _ hRw
     simp at mL
     have hl:=TZ nJ off c d.size wr (λt=>dj[t]!) (λt ht=>(hHj t Yn).1) hbw j (j-1) Yn Yn uV
     rw[show(((j-1:Nat):Int))=(j:Int)-1 by omega]at hl
     have W2:Hid (∀o q,SW (Value.int .i64) w nJ off dj ((wr.alloc o).drewN q)):=λo q=>(HW.out.alloc o).drewN q
     have mS : ∀ o q, Sem.run prog (method (prog.types.size + 100) 309 (RP bR) "Swap") ((wr.alloc o).drewN q) = .ok (412, SV nJ off d.size c) ((wr.alloc o).drewN q) := λo q =>
      N2 ((wr.alloc o).drewN q) bR 412 (SV nJ off d.size c) "Swap" ((SW.ZbX (W2.out o q) hRb gZ).trans hR) Yp (Zal _ _ _ _ _)
     simp at mS
     have UO:∀o q,Calls prog 412 #[SV nJ off d.size c,Y1 Y2 j,Y1 Y2 ((j-1:Nat):Int)] ((wr.alloc o).drewN q) λe w'=>e=.returned (.tuple #[])/\SW (Value.int .i64) w nJ off (swp dj j (j-1)) w':=λo q=>by
      have hh:=(W2.out o q).holds yk hH hsj;refine(SX nJ off c d.size _ _ _ j (j-1) Yn Yn uV (hh j Yn).1 (hh (j-1) Yn).1 (hh j Yn).2 (hh (j-1) Yn).2).mono ?_;rintro e w' ⟨rfl,q',rfl⟩;exact⟨rfl,((W2.out o q).swap yk j (j-1) Yn Yn).drewN q'⟩
     rw[show(((j-1:Nat):Int))=(j:Int)-1 by omega]at UO
     change Calls _ _ _ _ λe w'=>e=.returned (.bool (AA dj[j]! dj[j-1]!))/\_ at hl
     cases sR:AA dj[j]! dj[j-1]! with
     |true=>
      rw[sR]at hl
      go_wp2_with (first
       |(go_at_fn 416;refine hl.mono ?_;rintro e w' ⟨rfl,o,q,rfl⟩)
       |(go_at_fn 412;refine(UO _ _).mono ?_;rintro e w' ⟨rfl,hS⟩))
      go_roundw
      case rel=>
       (repeat apply Exists.intro)
       refine⟨⟨j-1,swp dj j (j-1),by congr 1<;>omega,Yn,by rw[size_swp];omega,hS,?_⟩,by rw[Ya bX,show((j-1:Nat):Int)=(j:Int)-1 by omega]⟩
       rw[<-HI.out,insInner_go AA 0 j dj hja sR]
      case measure=>simp[intOf];omega
     |false=>
      rw[sR]at hl
      go_wp2_with (go_at_fn 416;refine hl.mono ?_;rintro e w' ⟨rfl,o,q,rfl⟩)
      go_roundw
      case rel=>exact OUT.out (Or.inr sR) _ (W2.out o q)
      case measure=>simp[intOf];omega
    ·go_wp2
     go_roundw
     case rel=>exact OUT.out (Or.inl Yn) _ HW.out
     case measure=>simp[intOf];omega
  ·have ze:¬i<b:=Yn
   go_end0
   exact⟨rfl,by unfold Sort.insertionSort;rw[<-HO.out,insOuter_stop _ _ _ _ _ ze];omega⟩
end Go.Proofs.YtdilaemengjipaaGreatDoor
namespace Go.Proofs.YtdilaemengjipaaGreatDoor
set_option maxRecDepth 10000
open Go.RowKit Go.Lib Go.Sort
set_option maxRecDepth 100000
theorem ZhQ(nJ off c lim bR:Nat)(d:Array Int)(w:World)(hH:Holds (Value.int .i64) w nJ off d)(yk:nJ<w.heap.size)(hd:d.size=3)(hR:w.cell? ⟨bR,0,YX⟩=YW (.iface 261 (SV nJ off d.size c)))(hRb:bR<w.heap.size)(gZ:bR≠nJ):
 Calls prog 309 #[.iface 309 (RP bR),Y1 Y2 0,Y1 Y2 3,Y1 Y2 lim] w λe w'=>e=.returned (.tuple #[])/\SW (Value.int .i64) w nJ off (Sort.insertionSort AA d 0 3) w':=by
 have hi:=Zai nJ off c 3 bR d w hH yk hR hRb gZ Yn Yn Yn;rw[show((3:Nat):Int)=3 from rfl]at hi
 clear hH hR
 go_enter func309,ntmps309
 go_wp2
 go_loopw [1,2] (λv1 v2 wr=>v1=Y1 Y2 0/\v2=Y1 Y2 3/\wr=w) (λ_ _ _=>0)
 case atStart=>simp
 case round=>
  obtain⟨rfl,rfl,rfl⟩:=hrel
  go_wp2_with (go_at_call 357;refine hi.mono ?_;rintro e w' ⟨rfl,hS⟩)
  (try simp only[Exit.inBlock,Exit.then])
  refine bodyPost_ret (results_none rfl _ _ _) rfl ?_
  simp_all
theorem Un(nJ off c bR:Nat)(d:Array Int)(w:World)(hH:Holds (Value.int .i64) w nJ off d)(yk:nJ<w.heap.size)(hd:d.size=3)(hR:w.cell? ⟨bR,0,YX⟩=YW (.iface 261 (SV nJ off d.size c)))(hRb:bR<w.heap.size)(gZ:bR≠nJ):
 Calls prog 246 #[.iface 309 (RP bR)] w λe w'=>e=.returned (.tuple #[])/\SW (Value.int .i64) w nJ off (Sort.insertionSort AA d 0 3) w':=by
 have mN := N2 w bR 409 (SV nJ off d.size c) "Len" hR Yp (Zdl _ _ _ _ _)
 simp at mN
 have eN:∀args w,(callFunc 409 args).run prog w=.ok (.enter 409 args) w:=enters_of func409 Yp rfl;have hN:=Zam nJ off c d.size w;have hL:=Tryz.bits_Len 3 w Yn Yn;have hp:=λlim=>ZhQ nJ off c lim bR d w hH yk hd hR hRb gZ
 rw[hd]at mN hN
 rw[show((3:Nat):Int)=3 from rfl]at hN
 clear hH hR
 go_enter func246,ntmps246
 go_wp2_with (first
  |(go_at_fn 409;refine hN.mono ?_;rintro e w' ⟨rfl,rfl⟩)
  |(go_at_call 212;refine hL.mono ?_;rintro e w' ⟨rfl,rfl⟩)
  |(go_at_call 309;refine(hp _).mono ?_;rintro e w' ⟨rfl,hS⟩))
 all_goals first
  |(exfalso;omega)
  |(go_end0;simp_all)
end Go.Proofs.YtdilaemengjipaaGreatDoor
namespace Go.Proofs.YtdilaemengjipaaGreatDoor
set_option maxRecDepth 10000
open Go.RowKit
variable {A:Option Addr}{B E base:Nat}{P:Program}{Q:Exit->Act->World->Prop}{a:Act}{o:Oper}{v:Value}{w w' w0:World}{α:Type}{ys:List α}
structure Q3(P:Program)(t e:TypeId)(k bytes:Nat):Prop where
 ht:P.underlying t=YW (.slice e)
 info:∃i z,P.info? e=YW i/\i.zero=YW z/\i.size=k/\i.bytes=bytes/\z.cells.size=k
theorem Q3.mk'{t e:TypeId}{k bytes:Nat}{z:Value}(ht:P.underlying t=YW (.slice e))(h:(P.info? e).map (λi=>(i.zero,i.size,i.bytes))=YW (YW z,k,bytes))(hz:z.cells.size=k):Q3 P t e k bytes:=by
 obtain⟨i,h1,h2,h3,h4⟩:=info_parts h;exact⟨ht,i,z,h1,h2,h3,h4,hz⟩
theorem Own.form[eZ α]{xs:List α}(h:Own w B E v xs):∃A c,v=.slice A xs.length c/\xs.length<=c/\c<=maxLen:=by
 rcases h.2 with⟨hv,h0⟩ |⟨g,cap,cur,hv,_,_,xi,KP,_⟩
 all_goals grind
theorem Own.ZaL[eZ α](w:World)(B E:Nat):Own w B E (.slice YX 0 0) ([]:List α):=World.ownsRow_nil _ _ _ _
theorem Own.empty[eZ α](w:World)(B E c:Nat)(cur:Array Value)(hB:B<=w.heap.size)(hm:c<=maxLen)(hs:cur.size=c*eZ.k α):
 Own (w.alloc (.cells cur E)) B E (.slice (YW ⟨w.heap.size,0,YX⟩) 0 c) ([]:List α):=World.ownsRow_made w cur c hB hm hs
theorem Own.more[eZ α]{B B' E:Nat}{xs:List α}(h:Own w B E v xs)(hB:B'<=B):Own w B' E v xs:=by
 refine⟨h.1,?_⟩
 rcases h.2 with h2|⟨g,cap,cur,hv,hb,r⟩
 ·simp_all
 ·exact .inr ⟨g,cap,cur,hv,Yn,r⟩
theorem Own.down[eZ α]{w0 W w:World}{xs:List α}(h:Own w W.heap.size E v xs)(hu:Up w0 W):Own w w0.heap.size E v xs:=h.more hu.size
theorem Up.le(h:Up w0 w):w0.heap.size<=w.heap.size:=h.size
theorem Own.grown[eZ α]{xs:List α}{row:Option Nat}(h:Own w B E v xs)(hg:w.grownBy w' row)(gZ:v.ownBlock=YX\/v.ownBlock≠row):Own w' B E v xs:=
 World.ownsRow.kept h hg gZ
theorem Rd.one[eZ α](w:World)(T:TypeId)(x:α)(B:Nat)(hB:w.heap.size<B):Rd (w.alloc (.cells (eZ.cells x).toArray T)) B (YW ⟨w.heap.size,0,YX⟩) [x]:=by
 intro _;refine⟨w.heap.size,0,rfl,hB,λj u hu=>?_⟩
 rw[R6]at hu
 simp_all
theorem addr_add(b o j:Nat):(⟨b,o,YX⟩:Addr).add j=⟨b,o+j,YX⟩:=by unfold Addr.add;simp
theorem xC[eZ α](w:World){t ty e:Nat}{i:TypeInfo}(ht:P.underlying t=YW (.slice e))(hi:P.info? e=YW i)(oC:Own w base e v ys)(c:Nat):
 (Builtin.append_ #[t,t] ty #[v,.slice YX 0 c]).run P w=.ok v w:=by
 rcases oC.2 with⟨rfl,h0⟩ |⟨g,cap,cur,rfl,_,_,xi,_⟩
 ·simp[Builtin.append_,run_underlying ht,sizeOf,typeInfo,hi,Builtin.lenOf,Builtin.firstCells]
 ·simp[Builtin.append_,run_underlying ht,sizeOf,typeInfo,hi,Builtin.lenOf,Builtin.firstCells,xi,storeCells]
theorem Eo[eZ α](w:World){t ty e bytes:Nat}(T:Q3 P t e (eZ.k α) bytes)(oC:Own w base e v ys)
 {c:Nat} {xs:List α} (hr:Rd w B A xs) (qB:(ys.length+xs.length)*bytes<=140737488355328) (h63:ys.length+xs.length<=maxLen) (IU:base<=w.heap.size):
 ∃v' w',(Builtin.append_ #[t,t] ty #[v,.slice A xs.length c]).run P w=.ok v' w'/\Own w' base e v' (ys++xs)/\w.grownBy w' v.ownBlock/\(v'.ownBlock=v.ownBlock\/v'.ownBlock=YW w.heap.size):=by
 obtain⟨i,z,hi,hz,hs,hb,hzs⟩:=T.info
 cases A with
 |none=>
  have hx:xs=[]:=by
   rcases Classical.em (xs=[])with h|h
   ·exact h
   ·obtain⟨_,_,h',_⟩:=hr h
    grind
  subst hx;have kv:=xC (P:=P) w (ty:=ty) T.ht hi oC c;exact⟨v,w,Yn,by simp_all,⟨rfl,rfl,rfl,VY _,λ_ _ _=>rfl⟩,.inl rfl⟩
 |some ad=>
  have Nx:∀j u,(flat xs)[j]?=YW u->w.cell? (ad.add j)=YW u:=by
   intro j u hu;have gZ:xs≠[]:=by rintro rfl;simp[flat]at hu
   obtain⟨b,off,hA',_,hc⟩:=hr gZ;injection hA' with hA'
   subst hA';rw[addr_add]
   simp_all
  obtain⟨v',w',kv,h2,h3,_,h5⟩:=run_append_own_at (P:=P) w base t ty e i z (eZ.k α) bytes T.ht hi hz hs hb hzs eZ.pos v ys.length (flat ys) oC ad xs.length c (flat xs) (qA xs) Nx (F5 xs) h63 qB IU;refine⟨v',w',kv,?_,h3,h5⟩;have e1:(ys++xs).length=ys.length+xs.length:=List.length_append;unfold Own;rw[e1,IE];omega
theorem Up.Zc1[eZ α]{base e:Nat}(h:Up w0 w)(hg:w.grownBy w' v.ownBlock)(oC:Own w base e v ys)(hb:w0.heap.size<=base):Up w0 w':=
 Below.grown h hg h.size (λk hk=>Wr hb (World.ownsRow.lt oC k hk).1)
theorem Hi[eZ α]{K:Act->World->Prop}{t e bytes:Nat}(T:Q3 P t e (eZ.k α) bytes)
 (s x:Operand) (ho:o.op=.call { callee:=.builtin .append,args:=#[s,x],argTypes:=#[t,t]})
 (hs:a.eval s=v) (oC:Own w base e v ys)
 {c:Nat} {xs:List α} (n:Nat) (hx:a.eval x=.slice A n c) (hn:n=xs.length) (hr:Rd w B A xs)
 (qB:(ys.length+xs.length)*bytes<=140737488355328) (h63:ys.length+xs.length<=maxLen) (IU:base<=w.heap.size)
 (h:∀v' w',Own w' base e v' (ys++xs)->w.grownBy w' v.ownBlock->(v'.ownBlock=v.ownBlock\/v'.ownBlock=YW w.heap.size)->(∀w0,w0.heap.size<=base->Up w0 w->Up w0 w')->K (a.put o.dst v') w'):
 o.wp P a w K Q:=by
 subst hn;obtain⟨v',w',kv,h2,h3,h4⟩:=Eo (P:=P) w (ty:=o.type) (c:=c) T oC hr qB h63 IU;unfold Oper.wp execOp;simp only[ho,resolve,invoke,builtin,Sem.run_bind,Sem.run_pure,Result.andThen_ok,List.map_toArray,List.map_cons,List.map_nil,hs,hx,kv];exact h v' w' h2 h3 h4 λw0 hb hu=>Up.Zc1 hu h3 oC hb
theorem kt[eZ α]{ops:Array Oper}{rest:List Oper}{t e bytes:Nat}(T:Q3 P t e (eZ.k α) bytes)
 (hgd:o.guard=YX) (s x:Operand) (ho:o.op=.call { callee:=.builtin .append,args:=#[s,x],argTypes:=#[t,t]})
 (hs:a.eval s=v) (oC:Own w base e v ys)
 {c:Nat} {xs:List α} (n:Nat) (hx:a.eval x=.slice A n c) (hn:n=xs.length) (hr:Rd w B A xs)
 (qB:(ys.length+xs.length)*bytes<=140737488355328) (h63:ys.length+xs.length<=maxLen) (IU:base<=w.heap.size)
 (h:∀v' w',Own w' base e v' (ys++xs)->w.grownBy w' v.ownBlock->(v'.ownBlock=v.ownBlock\/v'.ownBlock=YW w.heap.size)->(∀w0,w0.heap.size<=base->Up w0 w->Up w0 w')->wpList P ops Q rest (a.put o.dst v') w'):
 wpList P ops Q (o::rest) a w:=
 wpList_plain hgd λ_ hK=>Hi T s x ho hs oC n hx hn hr qB h63 IU λv' w' h2 h3 h4 h5=>hK _ _ (h v' w' h2 h3 h4 h5)
end Go.Proofs.YtdilaemengjipaaGreatDoor
namespace Go.Proofs.YtdilaemengjipaaGreatDoor
set_option maxRecDepth 10000
open Go.RowKit Go.Lib Go.Sort
set_option maxRecDepth 100000
theorem VC:Q3 prog 25 3 (eZ.k Int) 8:=Q3.mk' (z:=Y1 Y2 0) Tryz.underlying25 Yp rfl
theorem xd(ls:List Int):flat ls=ls.map (Value.int .i64):=by
 induction ls with
 |nil=>rfl
 |cons x xs ih=>rw[tM,ih];rfl
theorem ZhN{w:World}{B:Nat}{v:Value}{xs:List Int}(h:Own w B 3 v xs)(hl:xs.length=3):∃g cap cur,v=.slice (YW ⟨g,0,YX⟩) 3 cap/\B<=g/\w.heap[g]?=YW (.cells cur 3 (0,0))/\3<=cap/\cap<=maxLen/\cur.size=cap*1/\cur.toList.take 3=xs.map (Value.int .i64):=by
 rcases h.2 with⟨_,h0⟩ |⟨g,cap,cur,hv,hB,hg,xi,KP,so,ht⟩
 ·omega
 ·rw[hl]at hv xi ht
  rw[xd]at ht
  exact⟨g,cap,cur,hv,hB,hg,xi,KP,so,ht⟩
theorem T0(W:World)(sv:Value):Calls prog 247 #[.iface 261 sv] W λe w'=>e=.returned (.iface 309 (RP W.heap.size))/\w'=W.alloc (.cells #[.iface 261 sv] 311):=by
 go_enter func247,ntmps247
 go_wp2
 go_ret
 simp
def Bm(xs:List Int):List Int:=(Sort.insertionSort AA xs.toArray 0 3).toList
theorem wY(lt:Int->Int->Bool)(a:Nat):∀(j:Nat) (d:Array Int),(insInner lt a j d).size=d.size
 |0,d=>rfl
 |j+1,d=>by
  unfold insInner
  split
  ·rw[wY lt a j,size_swp]
  rfl
theorem wZ(lt:Int->Int->Bool)(a b:Nat):∀(n i:Nat) (d:Array Int),b-i<=n->(insOuter lt a b i d).size=d.size
 |0,i,d,h=>by rw[insOuter,if_neg Yn]
 |n+1,i,d,h=>by
  rw[insOuter]
  split
  ·rw[wZ lt a b n (i+1) _ Yn,wY]
  rfl
theorem Ku(xs:List Int):(Bm xs).length=xs.length:=by
 unfold Bm Sort.insertionSort;rw[Array.length_toList,wZ _ _ _ 3 _ _ Yn];simp
theorem Ep(A:Option Addr)(xs:List Int)(c:Nat)(w:World)(hr:Rd w w.heap.size A xs)(hl:xs.length=3):
 Calls prog 197 #[.slice A 3 c] w λe w'=>∃v,e=.returned v/\Own w' w.heap.size 3 v (Bm xs)/\Up w w':=by
 go_enter func197,ntmps197
 go_wp2_with (at_builtin;refine kt VC rfl (.tmp 4) (.tmp 5) rfl (base:=w.heap.size) (ys:=[]) YQ (Own.empty w _ _ 0 _ (VY _) YF rfl) 3 YQ hl.symm (hr.up Yo) Yw YH (by first|(simp;done) |(simp;omega) |(have h_:=hB.size;omega) |(have h_:=hB.size;simp;omega)) ?_;intro v' w1 LB hg1 _ uW;refine Hid.out ?_)
 refine Lib.hid ?_;have ho:Own w1 w.heap.size 3 v' xs:=by simpa using LB
 have hu:=uW w (VY _) Yo;obtain⟨g,cap,cur,rfl,hgB,hgh,h3,KP,so,hct⟩:=ZhN ho hl;have u9:g<w1.heap.size:=(Array.getElem?_eq_some_iff.1 hgh).1;have hRv:=T0 w1 (SV g 0 3 cap);have VS:∀o,(w1.alloc o).heap[g]?=YW (.cells cur 3 (0,0)):=λo=>(Below.block (Up.al o (Up.rfl' w1)) g u9).trans hgh
 have uV:∀o,(w1.alloc o).heap.size=w1.heap.size+1:=λo=>by simp
 have hS:∀o,o=Obj.cells #[.iface 261 (SV g 0 3 cap)] 311 (0,0)->_:=λo ho=>Un g 0 cap w1.heap.size xs.toArray (w1.alloc o) (holds_of_blockI (VS o) (by rw[hl];exact hct)) (by rw[uV];omega) (by simp[hl]) (by subst ho;rw[cell_of_row _ _ 0 _ _ (0,0) (heap_alloc_new w1 _)];simp[hl]) (by rw[uV];omega) Yn
 have IQ:=hS _ rfl;clear hS
 go_wp2_with (first
  |(go_at_call 247;refine hRv.mono ?_;rintro e w' ⟨rfl,rfl⟩)
  |(go_at_call 246;refine IQ.mono ?_;rintro e w' ⟨rfl,hSW⟩))
 go_ret
 obtain⟨n,os,rfl⟩:=hSW;have bX:(Bm xs).length=xs.length:=Ku xs;have oC:=ownsRow_sortedI (n:=n) (os:=os) (ss:=xs) (ts:=Bm xs) bX hgB (VS (Obj.cells #[.iface 261 (SV g 0 3 cap)] 311 (0,0))) Yn KP so;refine⟨_,rfl,?_,?_⟩
 ·unfold Own
  rw[bX,xd];rw[hl]at oC⊢
  unfold Bm at oC⊢
  exact oC
 ·have Lz:=grownBy_sortedI (w:=w1.alloc (Obj.cells #[.iface 261 (SV g 0 3 cap)] 311 (0,0))) (g:=g) (n:=n) (os:=os) (Sort.insertionSort AA xs.toArray 0 3)
  have xM:=Up.al (Obj.cells #[.iface 261 (SV g 0 3 cap)] 311 (0,0)) hu;exact⟨Lz.os.trans xM.os,Lz.tape.trans xM.tape,Lz.output.trans xM.output,Wr xM.size Lz.size,λb hb=>(Lz.block b (Nat.lt_of_lt_of_le hb xM.size) Yr).trans (xM.block b hb)⟩
end Go.Proofs.YtdilaemengjipaaGreatDoor
namespace Go.Proofs.YtdilaemengjipaaGreatDoor
set_option maxRecDepth 10000
open Go.RowKit
theorem wA{α:Type}[eZ α]{c:α->List PV}{T:TypeId}{S:Nat->Prop}{β:Nat->Option qt}{w w':World}{v:Value}{ys:List α}{ω:Nat->Key->Prop}(hk:Ok w (nC β) (E1 S β 0 ω) w [])(ho:Own w' w.heap.size T v ys)(hu:Up w w')
 (hc:∀(x:α),(c x).length=eZ.k α/\∀(j:Nat) (p:PV),(c x)[j]?=YW p->∃u,(eZ.cells x)[j]?=YW u/\u.oneCell'=YY/\∀(w:World) (E:Env),dG w E p u):
 ∃E',Ok w (nC β) E' w' [YW ⟨T,eZ.k α,ys.map c⟩]/\(∀b,S b->E'.S b)/\(∀b,E'.S b->S b\/w.heap.size<=b\/nC β b)/\((∀l B,l<0->E'.β l=YW B->β l=YW B)/\∀b q,E'.ω b q->ω b q\/w.heap.size<=b\/nC β b)/\dG w' E' (.ms 0) v:=by
 have Ze8:∀(i:Nat) (cs:List PV),(ys.map c)[i]?=YW cs->cs.length=eZ.k α:=by
  intro i cs hi;rw[Wk]at hi
  obtain⟨y,_,rfl⟩:=Wb.1 hi;exact(hc y).1
 have key:∀(B:qt),v=B.sv->v.oneCell'=YY->(B.z=YZ->w.heap.size<=B.b/\B.b<w'.heap.size)->(∀E,gJ w' E ⟨T,eZ.k α,ys.map c⟩ B)->
  ∃E',Ok w (nC β) E' w' [YW ⟨T,eZ.k α,ys.map c⟩]/\(∀b,S b->E'.S b)/\(∀b,E'.S b->S b\/w.heap.size<=b\/nC β b)/\((∀l B,l<0->E'.β l=YW B->β l=YW B)/\∀b q,E'.ω b q->ω b q\/w.heap.size<=b\/nC β b)/\dG w' E' (.ms 0) v:=by
  intro B hv h1 hB hb;obtain⟨h2,_⟩:=hk.new (ν:=0) (λh=>absurd h (Nat.not_lt_zero 0)) ⟨T,eZ.k α,ys.map c⟩ B hu.os hu.tape hu.output hu.size (λb hb=>hu.block b hb) hB (λ_=>hb _)
  refine⟨_,h2,λb h=>h,λb h=>.inl h,⟨λl B h=>absurd h (Nat.not_lt_zero l),λ_ _ h=>.inl h⟩,.ms 0 v (.inl rfl) h1 λB' nK=>?_⟩
  have:B'=B:=by simpa[Env.add,eq_comm]using nK
  rw[this];exact hv
 rcases ho.2 with⟨hv,h0⟩ |⟨g,cap,cur,hv,hB,hg,xi,KP,so,ht⟩
 ·have hy:ys=[]:=List.length_eq_zero_iff.1 h0
  subst hy;exact key ⟨0,0,0,eZ.k α,T,YY⟩ (by rw[hv];rfl) (by rw[hv];rfl) (λh=>by cases h) λE=>⟨rfl,rfl,rfl,eZ.pos,VY _,Ww _,Ze8,λ_=>rfl,λh=>YA,λ_ h=>by cases h⟩
 ·refine key ⟨g,cap,ys.length,eZ.k α,T,YZ⟩ (by rw[hv];rfl) (by rw[hv];rfl) (λ_=>⟨hB,(Array.getElem?_eq_some_iff.1 hg).1⟩) λE=>⟨rfl,by simp,rfl,eZ.pos,xi,KP,Ze8,(λh=>by cases h),λ_=>⟨cur,hg,so,λi cs j p hi hj=>?_⟩,λ_ h=>by cases h⟩
  rw[Wk]at hi
  obtain⟨y,hy,rfl⟩:=Wb.1 hi;obtain⟨hl,BA⟩:=hc y;obtain⟨u,uW,xM,UP⟩:=BA j p hj;refine⟨u,?_,xM,UP _ _⟩;have hf:=uz hy uW;have bX:=(VU.1 hf).1;rw[qA]at bX
  have:=congrArg (λl:List Value=>l[i*eZ.k α+j]?) ht
  have h2:(cur.toList.take (ys.length*eZ.k α))[i*eZ.k α+j]?=(flat ys)[i*eZ.k α+j]?:=this;rw[List.getElem?_take_of_lt bX,Array.getElem?_toList,hf]at h2
  exact h2
end Go.Proofs.YtdilaemengjipaaGreatDoor
namespace Go.Proofs.YtdilaemengjipaaGreatDoor
set_option maxRecDepth 10000
open Go.RowKit Go.Lib
def mJ(l:List Int):Option (List Int):=if l.length=3 then YW (Bm l)else YX
theorem Zbb{w:World}{S:Nat->Prop}{xs:List Int}{x:Value}(uV:∀b,S b->b<w.heap.size)(h:eI w S (.sl (xs.map aG)) x):∃A c,x=.slice A xs.length c/\xs.length<=c/\Rd w w.heap.size A xs:=by
 generalize hq:PV.sl (xs.map aG)=q at h
 cases h with
 |v x h=>grind
 |ud=>grind
 |un=>grind
 |rp=>grind
 |fn=>grind
 |nil A c=>
  have:xs=[]:=by simp_all
  exact⟨A,c,by simp_all,by simp_all,by rw[this];exact Rd.ZaL⟩
 |sl es b off k c u hS hkp xi hm xh BA h1 hrr=>
  obtain rfl:xs.map aG=es:=by simp_all
  refine⟨_,c,by simp,by simp_all,λgZ=>⟨b,off,rfl,uV b hS,λj u' I6=>?_⟩⟩
  have ib:0<xs.length:=List.length_pos_iff.2 gZ;have hk1:k=1:=(xh 0 (aG xs[0]) Yq).symm;subst hk1;rw[xd]at I6
  rw[Wk]at I6
  obtain⟨y,hy,rfl⟩:=Wb.1 I6;have hj:=(VU.1 hy).1;have e1:(xs.map aG)[j]?=YW (aG y):=by simp_all
  have hc:=BA j _ 0 (vi y) e1 rfl;have hz:=hrr j _ 0 (vi y) e1 rfl;have u4:u j 0=Y1 Y2 y:=by
   generalize hp:u j 0=z at hz
   cases hz with
   |v _ _=>rfl
  simp_all
theorem yH(l:List Int){r:List Int}(H:mJ l=YW r):fa prog 197 [.sl (l.map aG)] [] (.ms 0) [YW ⟨.of 3,1,r.map aG⟩]:=by
 unfold mJ at H
 split at H
 case isFalse=>cases H
 rename_i hl3;obtain rfl:=Option.some.inj H;intro S β w vs ω hk hl ha;obtain⟨x,hx0,hr⟩:=ha 0 _ rfl;have hv:vs=#[x]:=by
  grind
 subst hv;have hr0:eI w S (.sl (l.map aG)) x:=by cases hr with|c h=>exact h
 obtain⟨A,c,rfl,Ze0,UN⟩:=Zbb hk.sz hr0;rw[hl3];refine(Ep A l c w UN hl3).mono ?_;rintro e w' ⟨v,rfl,ho,hu⟩;obtain⟨E',h1,h2,h3,h4,h5⟩:=wA (c:=aG) hk ho hu (λx=>⟨rfl,λj p hj=>by
  cases j with
  |zero=>obtain rfl:vi x=p:=by simp_all
         exact⟨_,rfl,rfl,λw E=>.c (.v _ rfl)⟩
  |succ j=>simp_all⟩)
 exact⟨v,E',rfl,h1,h2,h3,h4,h5⟩
instance (l:List Int):CT prog (mJ l):=⟨197,[.sl (l.map aG)],[],λr=>.ms 0,λr=>[YW ⟨.of 3,1,r.map aG⟩],yH l⟩
end Go.Proofs.YtdilaemengjipaaGreatDoor
namespace Go.Proofs.YtdilaemengjipaaGreatDoor
set_option maxRecDepth 10000
open Go.RowKit
instance :eZ ByteArray where
 cells x:=[.string x]
 k:=1
 len _:=rfl
 pos:=by decide
 one:=by simp[Value.oneCell']
theorem zC(ls:List ByteArray):flat ls=ls.map Value.string:=by
 induction ls with
 |nil=>rfl
 |cons x xs ih=>rw[tM,ih];rfl
end Go.Proofs.YtdilaemengjipaaGreatDoor
