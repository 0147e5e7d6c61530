/- A part of the proof of the statement in the last file of this claim: texts on the language of the program and on its functions. No condition. -/
import Derived.Test.YtdilaemengjipaaGreatDoorCJ4
import Derived.Lib.Split
import Derived.Lib.CountLaws
import Derived.Lib.AtoiAll
import Derived.Lib.ItoaNum
import Derived.Test.YtdilaemengjipaaGreatDoorCJ1
set_option linter.unusedVariables false
set_option linter.unusedSimpArgs false
set_option linter.unusedSectionVars false
open Option renaming some->YW,none->YX
open Bool renaming true->YY,false->YZ
open Decidable renaming decide->Y0
open Go.Proofs.Tryz
set_option maxHeartbeats 40000000
open List renaming mem_cons_of_mem->Wl,mem_of_getElem?->VW,length_cons->V0,length_nil->V1,mem_singleton->Wh
open Nat renaming zero_add->Wc,le_refl->VY
namespace Go.Proofs.YtdilaemengjipaaGreatDoor
set_option maxRecDepth 10000
open Go.RowKit
def bt(n:ah)(t:av):Option Int:=
 (aB n.aA t.bH).bind λy1=>
 YW (aM ((aM (t.day*1440))+y1.start))
instance (n:ah)(t:av):CT prog (bt n t):=⟨230,[.ag (bB n),.ag (aU t)],[],λr=>vi r,λr=>[],cw (bt.eq_1 ..) func230 ntmps230 results230⟩
def bm(n:ah)(t:av):Option Int:=
 (bt n t).bind λy1=>
 (aB n.aA t.bH).bind λy2=>
 YW (aM (y1+y2.nd))
instance (n:ah)(t:av):CT prog (bm n t):=⟨282,[.ag (bB n),.ag (aU t)],[],λr=>vi r,λr=>[],cw (bm.eq_1 ..) func282 ntmps282 results282⟩
def sJ(l:List av)(t:av)(s0:Int):Option (Int⊕(Unit⊕Bool)):=
 cond (Y0 (s0<(l.length:Int)))
 ((aB l s0).bind λy1=>
 cond (Y0 (y1=t))
 (YW (.inr (.inr YY)))
 (YW (.inl (aM (s0+1)))))
 (YW (.inr (.inl ())))
instance (l:List av)(t:av):bp (sJ l t):=⟨λs0=>(.sl (l.map aU)::.un::.un::.be 0 0 0::.un::vi s0::(U 12 [])),λs0=>[YW ⟨.of 46,2,[[vi t.bH,vi t.day]]⟩]⟩
def dB(l:List av)(t:av):Option Bool:=
 (aE (sJ l t) NN 0).bind (bh (λo0=>
 YW YZ) (λr=>YW r))
instance (l:List av)(t:av):CT prog (dB l t):=⟨215,[.sl (l.map aU),.ag (aU t)],[],λr=>vb r,λr=>[],cw (dB.eq_1 ..) func215 ntmps215 results215⟩
def qb(n:ah)(s0:Int×(List ByteArray))(y2:bP)(s1:Int):Option (Int⊕Int):=
 cond (Y0 (s1<(s0.2.length:Int)))
 ((aB s0.2 s1).bind λy3=>
 cond (qU y3 y2.aY)
 (YW (.inl (aM (s1+1))))
 (YW (.inr s1)))
 (YW (.inr s1))
instance (n:ah)(s0:Int×(List ByteArray))(y2:bP):bp (qb n s0 y2):=⟨λs1=>(.un::.be 0 0 0::.un::.ms 1::vi s0.1::vs y2.aY::vi s1::(U 65 [])),λs1=>[YW ⟨.of 27,3,[[.sl (n.aA.map bo),.sl (n.off.map aG),vi n.change]]⟩,YW ⟨.of 9,1,s0.2.map iU⟩]⟩
def qc(n:ah)(s0:Int×(List ByteArray))(y1:bP)(s2:Int):Option (Int⊕Int):=
 cond (Y0 (s2<(s0.2.length:Int)))
 ((aB s0.2 s2).bind λy5=>
 cond (qU y5 y1.ar)
 (YW (.inl (aM (s2+1))))
 (YW (.inr s2)))
 (YW (.inr s2))
instance (n:ah)(s0:Int×(List ByteArray))(y1:bP):bp (qc n s0 y1):=⟨λs2=>(.un::.be 0 0 0::.un::.ms 1::vi s0.1::vs y1.ar::vi s2::(U 65 [])),λs2=>[YW ⟨.of 27,3,[[.sl (n.aA.map bo),.sl (n.off.map aG),vi n.change]]⟩,YW ⟨.of 9,1,s0.2.map iU⟩]⟩
def jf(n:ah)(s0:Int×(List ByteArray)):Option ((Int×(List ByteArray))⊕(List ByteArray)):=
 cond (Y0 (s0.1<(aM (2*(n.aA.length:Int)))))
 ((aB n.aA (IntKind.i64.wrap (Int.tdiv s0.1 2))).bind λy1=>
 cond (Y0 ((Int.tmod s0.1 2)=1))
 ((aB n.aA (IntKind.i64.wrap (Int.tdiv s0.1 2))).bind λy2=>
 (aE (qb n s0 y2) NN 0).bind (λo1=>
 cond (Y0 (o1=(s0.2.length:Int)))
 ((cr (fJ 0 o1 s0.2.length)).bind λ_=>
 (cr (bn ((([]:List ByteArray):List ByteArray).length+((cM s0.2 0 o1):List ByteArray).length) 16)).bind λ_=>
 (cr (bn ((((([]:List ByteArray):List ByteArray)++(cM s0.2 0 o1)):List ByteArray).length+([y2.aY]:List ByteArray).length) 16)).bind λ_=>
 (cr (fJ o1 (s0.2.length:Int) s0.2.length)).bind λ_=>
 (cr (bn ((((((([]:List ByteArray):List ByteArray)++(cM s0.2 0 o1)):List ByteArray)++[y2.aY]):List ByteArray).length+((cM s0.2 o1 (s0.2.length:Int)):List ByteArray).length) 16)).bind λ_=>
 YW (.inl ((aM (s0.1+1)),((((((([]:List ByteArray):List ByteArray)++(cM s0.2 0 o1)):List ByteArray)++[y2.aY]):List ByteArray)++(cM s0.2 o1 (s0.2.length:Int))))))
 ((aB s0.2 o1).bind λy4=>
 cond (!decide (y4=y2.aY))
 ((cr (fJ 0 o1 s0.2.length)).bind λ_=>
 (cr (bn ((([]:List ByteArray):List ByteArray).length+((cM s0.2 0 o1):List ByteArray).length) 16)).bind λ_=>
 (cr (bn ((((([]:List ByteArray):List ByteArray)++(cM s0.2 0 o1)):List ByteArray).length+([y2.aY]:List ByteArray).length) 16)).bind λ_=>
 (cr (fJ o1 (s0.2.length:Int) s0.2.length)).bind λ_=>
 (cr (bn ((((((([]:List ByteArray):List ByteArray)++(cM s0.2 0 o1)):List ByteArray)++[y2.aY]):List ByteArray).length+((cM s0.2 o1 (s0.2.length:Int)):List ByteArray).length) 16)).bind λ_=>
 YW (.inl ((aM (s0.1+1)),((((((([]:List ByteArray):List ByteArray)++(cM s0.2 0 o1)):List ByteArray)++[y2.aY]):List ByteArray)++(cM s0.2 o1 (s0.2.length:Int))))))
 (YW (.inl ((aM (s0.1+1)),s0.2))))))
 ((aE (qc n s0 y1) NN 0).bind (λo2=>
 cond (Y0 (o2=(s0.2.length:Int)))
 ((cr (fJ 0 o2 s0.2.length)).bind λ_=>
 (cr (bn ((([]:List ByteArray):List ByteArray).length+((cM s0.2 0 o2):List ByteArray).length) 16)).bind λ_=>
 (cr (bn ((((([]:List ByteArray):List ByteArray)++(cM s0.2 0 o2)):List ByteArray).length+([y1.ar]:List ByteArray).length) 16)).bind λ_=>
 (cr (fJ o2 (s0.2.length:Int) s0.2.length)).bind λ_=>
 (cr (bn ((((((([]:List ByteArray):List ByteArray)++(cM s0.2 0 o2)):List ByteArray)++[y1.ar]):List ByteArray).length+((cM s0.2 o2 (s0.2.length:Int)):List ByteArray).length) 16)).bind λ_=>
 YW (.inl ((aM (s0.1+1)),((((((([]:List ByteArray):List ByteArray)++(cM s0.2 0 o2)):List ByteArray)++[y1.ar]):List ByteArray)++(cM s0.2 o2 (s0.2.length:Int))))))
 ((aB s0.2 o2).bind λy6=>
 cond (!decide (y6=y1.ar))
 ((cr (fJ 0 o2 s0.2.length)).bind λ_=>
 (cr (bn ((([]:List ByteArray):List ByteArray).length+((cM s0.2 0 o2):List ByteArray).length) 16)).bind λ_=>
 (cr (bn ((((([]:List ByteArray):List ByteArray)++(cM s0.2 0 o2)):List ByteArray).length+([y1.ar]:List ByteArray).length) 16)).bind λ_=>
 (cr (fJ o2 (s0.2.length:Int) s0.2.length)).bind λ_=>
 (cr (bn ((((((([]:List ByteArray):List ByteArray)++(cM s0.2 0 o2)):List ByteArray)++[y1.ar]):List ByteArray).length+((cM s0.2 o2 (s0.2.length:Int)):List ByteArray).length) 16)).bind λ_=>
 YW (.inl ((aM (s0.1+1)),((((((([]:List ByteArray):List ByteArray)++(cM s0.2 0 o2)):List ByteArray)++[y1.ar]):List ByteArray)++(cM s0.2 o2 (s0.2.length:Int))))))
 (YW (.inl ((aM (s0.1+1)),s0.2)))))))
 (YW (.inr s0.2))
instance (n:ah):bp (jf n):=⟨λs0=>(.un::.be 0 0 0::.un::.ms 1::vi s0.1::(U 67 [])),λs0=>[YW ⟨.of 27,3,[[.sl (n.aA.map bo),.sl (n.off.map aG),vi n.change]]⟩,YW ⟨.of 9,1,s0.2.map iU⟩]⟩
def dh(n:ah):Option (List ByteArray):=
 (aE (jf n) NN (0,([]:List ByteArray))).bind (λo0=>
 YW o0)
instance (n:ah):CT prog (dh n):=⟨182,[.ag (bB n)],[],λr=>.ms 0,λr=>[YW ⟨.of 9,1,r.map iU⟩],cw (dh.eq_1 ..) func182 ntmps182 results182⟩
def cd(n:ah)(x:az)(now:Int):Option Bool:=
 cond (Y0 (0<x.aO))
 ((aB x.aK (aM (x.aO-1))).bind λy1=>
 (aB n.aA y1.bH).bind λy2=>
 (aB x.aK (aM (x.aO-1))).bind λy3=>
 (bm n y3).bind λy4=>
 cond (Y0 (now<y4))
 (YW YZ)
 (cond (Y0 (x.state=1))
 (cond (Y0 (x.place=y2.aY))
 (cond (!decide (y2.aY=x.aY))
 (cond (Y0 (x.bQ=0))
 (cond (Y0 (x.aO=(x.aK.length:Int)))
 (YW YY)
 ((aB x.aK x.aO).bind λy5=>
 (bt n y5).bind λy6=>
 YW (Y0 (now<y6))))
 (YW YZ))
 (YW YZ))
 (YW YZ))
 (cond (Y0 (x.state=2))
 (cond (Y0 (x.place=⟨#[]⟩))
 (cond (Y0 (x.bQ=0))
 (cond (Y0 (x.aO<(x.aK.length:Int)))
 ((aB x.aK x.aO).bind λy7=>
 (bt n y7).bind λy8=>
 cond (Y0 (y8<=now))
 ((aB x.aK x.aO).bind λy9=>
 (bm n y9).bind λeh=>
 YW (Y0 (now<eh)))
 (YW YZ))
 (YW YZ))
 (YW YZ))
 (YW YZ))
 (cond (Y0 (x.state=3))
 (cond (Y0 (x.place=x.aY))
 (cond (Y0 (y2.aY=x.aY))
 (cond (Y0 (x.aO=(x.aK.length:Int)))
 (cond (Y0 (0<x.aO))
 ((aB x.aK (aM (x.aO-1))).bind λlr=>
 (bm n lr).bind λoV=>
 YW (Y0 (x.bQ=oV)))
 (YW YZ))
 (YW YZ))
 (YW YZ))
 (YW YZ))
 (YW YZ)))))
 (cond (Y0 (x.state=1))
 (cond (Y0 (x.place=x.ar))
 (cond (!decide (x.ar=x.aY))
 (cond (Y0 (x.bQ=0))
 (cond (Y0 (x.aO=(x.aK.length:Int)))
 (YW YY)
 ((aB x.aK x.aO).bind λoD=>
 (bt n oD).bind λnF=>
 YW (Y0 (now<nF))))
 (YW YZ))
 (YW YZ))
 (YW YZ))
 (cond (Y0 (x.state=2))
 (cond (Y0 (x.place=⟨#[]⟩))
 (cond (Y0 (x.bQ=0))
 (cond (Y0 (x.aO<(x.aK.length:Int)))
 ((aB x.aK x.aO).bind λpZ=>
 (bt n pZ).bind λod=>
 cond (Y0 (od<=now))
 ((aB x.aK x.aO).bind λrP=>
 (bm n rP).bind λva=>
 YW (Y0 (now<va)))
 (YW YZ))
 (YW YZ))
 (YW YZ))
 (YW YZ))
 (cond (Y0 (x.state=3))
 (cond (Y0 (x.place=x.aY))
 (cond (Y0 (x.ar=x.aY))
 (cond (Y0 (x.aO=(x.aK.length:Int)))
 (cond (Y0 (0<x.aO))
 ((aB x.aK (aM (x.aO-1))).bind λwJ=>
 (bm n wJ).bind λD5=>
 YW (Y0 (x.bQ=D5)))
 (YW YZ))
 (YW YZ))
 (YW YZ))
 (YW YZ))
 (YW YZ))))
instance (n:ah)(x:az)(now:Int):CT prog (cd n x now):=⟨285,[.ag (bB n),.ag (aZ x),vi now],[],λr=>vb r,λr=>[],cw (cd.eq_1 ..) func285 ntmps285 results285⟩
end Go.Proofs.YtdilaemengjipaaGreatDoor
namespace Go.Proofs.YtdilaemengjipaaGreatDoor
set_option maxRecDepth 10000
open Go
variable {a b l:List UInt8}{i:Nat}{n:Int}
def jD(c:UInt8):List UInt8->List (List UInt8)
 | []=>[[]]
 |x::xs=>if x=c then []::jD c xs else match jD c xs with
  | []=>[[x]]
  |p::ps=>(x::p)::ps
theorem rN{c:UInt8}:∀{l:List UInt8},c ∉ l->jD c l=[l]
 | [],_=>rfl
 |x::xs,h=>by
  have h1:¬x=c:=λe=>h (by simp[e])
  have h2:c ∉ xs:=λe=>h (Wl _ e)
  simp[jD,h1,rN h2]
theorem nE{c:UInt8}{b:List UInt8}:∀{a:List UInt8},c ∉ a->jD c (a++c::b)=a::jD c b
 | [],_=>by simp[jD]
 |x::xs,h=>by
  have h1:¬x=c:=λe=>h (by simp[e])
  have h2:c ∉ xs:=λe=>h (Wl _ e)
  simp[jD,h1,nE h2]
theorem Jb(c:UInt8):∀l:List UInt8,c ∉ l\/∃a b,l=a++c::b/\c ∉ a
 | []=>.inl Yq
 |x::xs=>by
  by_cases hx:x=c
  ·exact .inr ⟨[],xs,by simp[hx],by simp⟩
  ·rcases Jb c xs with h|⟨a,b,rfl,h⟩
   ·exact .inl (by simp[h,Ne.symm hx])
   ·exact .inr ⟨x::a,b,rfl,by simp[h,Ne.symm hx]⟩
theorem To{c:UInt8}:Lib.occAt l [c] i=YY↔l[i]?=YW c:=by
 unfold Lib.occAt;rw[<-List.head?_drop]
 cases l.drop i with
 |nil=>simp
 |cons x xs=>
  simp only[List.head?_cons,Option.some.injEq];constructor
  ·intro h;simp[List.isPrefixOf]at h;exact h.symm
  ·rintro rfl;simp[List.isPrefixOf]
theorem occ_no{c:UInt8}(h:l[i]?≠YW c):Lib.occAt l [c] i=false:=by
 cases e:Lib.occAt l [c] i with
 |false=>rfl
 |true=>exact absurd (To.1 e) h
theorem ES{c:UInt8}(h:c ∉ a):Lib.index (a++c::b) [c]=a.length:=by
 refine Lib.index_first Yq (To.2 Yq) λj hj=>occ_no λe=>h ?_
 rw[List.getElem?_append_left hj]at e
 exact VW e
theorem Jc{c:UInt8}(h:c ∉ l):Lib.index l [c]=-1:=
 Lib.index_none λj _=>occ_no λe=>h (VW e)
theorem Fw(c:UInt8):∀(n:Nat) (l:List UInt8),l.length<=n->Lib.splitK [c] 0 (Lib.count l [c]) l=jD c l
 |n,l,hn=>by
  rcases Jb c l with h|⟨a,b,rfl,h⟩
  ·rw[Lib.count_miss (Jc h),rN h];rfl
  ·have hi:=ES (b:=b) h
   have hd:(a++c::b).drop (a.length+1)=b:=by simp
   rw[Lib.count_hit Yq hi,nE h,Nat.add_comm 1];simp only[V0,V1,Wc,hd];unfold Lib.splitK;have hm:¬(Lib.index (a++c::b) [c]==-1)=true:=λe=>by have:=beq_iff_eq.1 e;omega
   rw[if_neg hm,hi];simp only[Int.toNat_natCast,Nat.add_zero,V0,V1,Wc,List.take_left',hd]
   match n,hn with
   |0,hn=>simp at hn
   |n+1,hn=>
    rw[Fw c n b (by simp at hn;omega)]
theorem Vw{c:UInt8}(h:c ∉ a):Lib.cut (a++c::b) [c]=(a,b,YY):=by
 have hi:=ES (b:=b) h;unfold Lib.cut;simp[hi]
theorem ZcM{c:UInt8}(h:c ∉ l):Lib.cut l [c]=(l,[],YZ):=by
 have hi:=Jc h;unfold Lib.cut;simp[hi]
theorem Hg{k:Nat}(h:k<10):(UInt8.ofNat (48+k)).toNat=48+k:=by simp;omega
theorem Fc:∀(a b:List UInt8) (acc:Nat),Lib.parseUint10 acc (a++b)=(match Lib.parseUint10 acc a with|.ok u=>Lib.parseUint10 u b|Lib.NumEnd.syntax=>Lib.NumEnd.syntax|.range=>.range)
 | [],b,acc=>rfl
 |c::a,b,acc=>by
  simp only[List.cons_append,Lib.parseUint10]
  split
  ·split
   ·rfl
   ·split
    ·rfl
    ·exact Fc a b _
  ·rfl
theorem Af:∀(n u:Nat),u<=n->u<1844674407370955161->Lib.parseUint10 0 (Lib.decDigits u)=.ok u
 |n,u,hn,hu=>by
  rw[Lib.decDigits]
  split
  ·rename_i h
   have e:=Hg h;simp only[Lib.parseUint10,e];rw[if_pos Yn,if_neg Yn,if_neg Yn]
   congr 1;omega
  ·rename_i h
   have e:=Hg (k:=u % 10) Yn
   match n,hn with
   |0,hn=>omega
   |n+1,hn=>
    rw[Fc,Af n (u / 10) Yn Yn];simp only[Lib.parseUint10,e];rw[if_pos Yn,if_neg Yn,if_neg Yn]
    congr 1;omega
theorem ZcN(u:Nat):Lib.decDigits u≠[]:=by
 rw[Lib.decDigits];split<;>simp
theorem FY:∀(n u:Nat),u<=n->∀c∈Lib.decDigits u,48<=c.toNat/\c.toNat<=57
 |n,u,hn,c,hc=>by
  rw[Lib.decDigits]at hc
  split at hc
  ·rename_i h
   rw[Wh.1 hc,Hg h];omega
  ·rename_i h
   rcases List.mem_append.1 hc with h1|h1
   ·match n,hn with
    |0,hn=>omega
    |n+1,hn=>exact FY n (u / 10) Yn c h1
   ·rw[Wh.1 h1,Hg Yn];omega
theorem Ji(u:Nat):Lib.itoa (u:Int)=Lib.decDigits u:=by unfold Lib.itoa;rw[if_neg Yn];simp
theorem Jj(h:0<=n):∀c∈Lib.itoa n,48<=c.toNat/\c.toNat<=57:=by
 obtain⟨u,rfl⟩:=Int.eq_ofNat_of_zero_le h;rw[Ji];exact FY u u (VY _)
theorem ZaM(h:∀c∈l,48<=c.toNat/\c.toNat<=57){c:UInt8}(hc:c.toNat<48\/57<c.toNat):c ∉ l:=λhm=>by have:=h c hm;omega
theorem Ex(h0:0<=n)(h1:n<=1000000000000):Lib.atoiAll (Lib.itoa n)=.ok n:=by
 obtain⟨u,rfl⟩:=Int.eq_ofNat_of_zero_le h0;have hp:=Af u u (VY _) Yn;have hd:=FY u u (VY _);have gZ:=ZcN u;rw[Ji]
 revert hp hd gZ
 generalize Lib.decDigits u=l;intro hp hd gZ
 cases l with
 |nil=>exact absurd rfl gZ
 |cons c r=>
  have:=hd c List.mem_cons_self;have e1:¬c.toNat=43:=Yn;have e2:¬c.toNat=45:=Yn;have e3:¬(9223372036854775808:Nat)<=u:=Yn;unfold Lib.atoiAll Lib.parseMag;simp[e1,e2,hp,e3]
theorem U9{v:Int}(h:Lib.atoiAll l=.ok v):-9223372036854775808<=v/\v<=9223372036854775807:=by
 cases l with
 |nil=>cases h
 |cons c r=>
  unfold Lib.atoiAll at h
  simp only at h
  split at h
  ·cases h
  ·cases h
  ·split at h
   ·cases h
   ·split at h
    ·cases h
    ·injection h with h
     subst h
     split<;>omega
end Go.Proofs.YtdilaemengjipaaGreatDoor
