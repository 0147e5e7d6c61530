/- A part of the proof of the statement in the last file of this claim: texts on the language of the program and on its functions. No condition. -/
import Derived.Test.YtbalgkakkoocjaaGreatCJ4
import Derived.Test.YtbalgkakkoocjaaGreatCJ1
import Derived.Sort.LotA
import Derived.Test.YtbalgkakkoocjaaGreatProg
import Derived.Shelf.SlSortFuncK.RowK2
import Derived.Shelf.GgSortFunc.SmallK
import Derived.Deep.DeepCutAuto
set_option linter.unusedVariables false
set_option linter.unusedSimpArgs false
set_option linter.unusedSectionVars false
open Go.Value renaming int->ZF
open Go.IntKind renaming i64->ZG
open Go renaming undef->ZH
open Option renaming some->ZA,none->ZB
open Bool renaming true->ZC,false->ZD
open Decidable renaming decide->ZE
open Go.Proofs.Tryz
set_option maxHeartbeats 40000000
open Nat renaming lt_or_ge->Wg,le_refl->VJ,lt_trichotomy->W1,zero_add->VY,add_sub_cancel->Xp
namespace Go.Proofs.YtbalgkakkoocjaaGreat
set_option maxRecDepth 10000
open Go.RowKit
variable {KR:PV->Prop}{n:Nat}
theorem Pm{a a2 b b2:ByteArray}:Ix prog (n+3) 104 [vs a,vs b] [vs a2,vs b2]=ZA (ZE ((⟨a,b⟩:bF)=(⟨a2,b2⟩:bF))):=by
 simp only[Ix,Tryz.underlying104,ZaJ,Tryz.underlying9,Program.fieldsOf,go_sem];simp[ZaJ,tq9,baB]
 try rfl
@[go_sem] theorem ZmI{a a2 b b2:ByteArray}:yS prog .eql 104 [vs a,vs b] [vs a2,vs b2] KR=KR (vb (ZE ((⟨a,b⟩:bF)=(⟨a2,b2⟩:bF)))):=by unfold yS;rw[show(10000:Nat)=9997+3 from rfl,Pm,Tryz.underlying104];simp only[ZaJ,true_and]
@[go_sem] theorem ZnC{a a2 b b2:ByteArray}:yS prog .neq 104 [vs a,vs b] [vs a2,vs b2] KR=KR (vb (!decide ((⟨a,b⟩:bF)=(⟨a2,b2⟩:bF)))):=by unfold yS;rw[show(10000:Nat)=9997+3 from rfl,Pm,Tryz.underlying104];simp only[ZaJ,true_and]
theorem Ph{a b c d a2 b2 c2 d2:Int}:Ix prog (n+3) 107 [vi a,vi b,vi c,vi d] [vi a2,vi b2,vi c2,vi d2]=ZA (ZE ((⟨a,b,c,d⟩:bH)=(⟨a2,b2,c2,d2⟩:bH))):=by
 simp only[Ix,Tryz.underlying3,Tryz.underlying107,ZaK,Program.fieldsOf,go_sem];simp[ZaK,tq3]
 try rfl
@[go_sem] theorem ZmF{a b c d a2 b2 c2 d2:Int}:yS prog .eql 107 [vi a,vi b,vi c,vi d] [vi a2,vi b2,vi c2,vi d2] KR=KR (vb (ZE ((⟨a,b,c,d⟩:bH)=(⟨a2,b2,c2,d2⟩:bH)))):=by unfold yS;rw[show(10000:Nat)=9997+3 from rfl,Ph,Tryz.underlying107];simp only[ZaK,true_and]
@[go_sem] theorem Znz{a b c d a2 b2 c2 d2:Int}:yS prog .neq 107 [vi a,vi b,vi c,vi d] [vi a2,vi b2,vi c2,vi d2] KR=KR (vb (!decide ((⟨a,b,c,d⟩:bH)=(⟨a2,b2,c2,d2⟩:bH)))):=by unfold yS;rw[show(10000:Nat)=9997+3 from rfl,Ph,Tryz.underlying107];simp only[ZaK,true_and]
theorem Pg{a b c d a2 b2 c2 d2:Int}:Ix prog (n+3) 111 [vi a,vi b,vi c,vi d] [vi a2,vi b2,vi c2,vi d2]=ZA (ZE ((⟨a,b,c,d⟩:aU)=(⟨a2,b2,c2,d2⟩:aU))):=by
 simp only[Ix,Tryz.underlying3,Tryz.underlying111,ZaL,Program.fieldsOf,go_sem];simp[ZaL,tq3]
 try rfl
@[go_sem] theorem ZmE{a b c d a2 b2 c2 d2:Int}:yS prog .eql 111 [vi a,vi b,vi c,vi d] [vi a2,vi b2,vi c2,vi d2] KR=KR (vb (ZE ((⟨a,b,c,d⟩:aU)=(⟨a2,b2,c2,d2⟩:aU)))):=by unfold yS;rw[show(10000:Nat)=9997+3 from rfl,Pg,Tryz.underlying111];simp only[ZaL,true_and]
@[go_sem] theorem Zny{a b c d a2 b2 c2 d2:Int}:yS prog .neq 111 [vi a,vi b,vi c,vi d] [vi a2,vi b2,vi c2,vi d2] KR=KR (vb (!decide ((⟨a,b,c,d⟩:aU)=(⟨a2,b2,c2,d2⟩:aU)))):=by unfold yS;rw[show(10000:Nat)=9997+3 from rfl,Pg,Tryz.underlying111];simp only[ZaL,true_and]
end Go.Proofs.YtbalgkakkoocjaaGreat
namespace Go.Proofs.YtbalgkakkoocjaaGreat
set_option maxRecDepth 10000
open Go.Sort
variable {a b i j m:Nat}
section
variable {α:Type} [Inhabited α]
def zY(d:Array α)(a b:Nat):Nat->Array α
 |0=>d
 |n+1=>swp (zY d a b n) (a+n) (b+n)
theorem qI(d:Array α)(a b:Nat):∀n,(zY d a b n).size=d.size
 |0=>rfl
 |n+1=>by rw[zY,size_swp,qI d a b n]
theorem AM(d:Array α){a b lo hi:Nat}(h1:lo<=a):∀n,a+n<=hi->lo<=b->b+n<=hi->hi<=d.size->PermIn lo hi d (zY d a b n)
 |0,_,_,_,_=>permIn_refl _ _ _
 |n+1,h2,h3,h4,h5=>permIn_trans _ _ _ _ _ (AM d h1 n YG h3 YG h5) (swp_permIn _ _ _ _ _ YG YG YG YG Zw)
theorem DU(d:Array α){a b:Nat}:∀n,a+n<=b->b+n<=d.size->∀k,(zY d a b n)[k]! = if a<=k/\k<a+n then d[b+(k-a)]! else if b<=k/\k<b+n then d[a+(k-b)]! else d[k]!
 |0,_,_,k=>by rw[if_neg YG,if_neg YG];rfl
 |n+1,h1,h2,k=>by
  have ih:=DU d (a:=a) (b:=b) n YG YG;rw[zY,swp_get (zY d a b n) (i:=a+n) (j:=b+n) Zw Zw,ih,ih,ih]
  grind
def qS(d:Array α)(a m b k:Nat):α:=if a<=k/\k<a+(b-m)then d[m+(k-a)]! else if a+(b-m)<=k/\k<b then d[k-(b-m)]! else d[k]!
theorem ZiT(e:Array α)(h:j<i)(hi:i<=m)(hs:m+j<=e.size)(k:Nat):qS (zY e (m-i) m j) (m-i+j) m (m+j) k=qS e (m-i) m (m+j) k:=by
 unfold qS;simp only[DU e (a:=m-i) (b:=m) j YG YG]
 grind
theorem ZiU(e:Array α)(h:i<j)(hi:i<=m)(hs:m+j<=e.size)(k:Nat):qS (zY e (m-i) (m+j-i) i) (m-i) m (m+j-i) k=qS e (m-i) m (m+j) k:=by
 unfold qS;simp only[DU e (a:=m-i) (b:=m+j-i) i YG YG]
 grind
theorem ZiS(e:Array α)(hi:i<=m)(hs:m+i<=e.size)(k:Nat):(zY e (m-i) m i)[k]! = qS e (m-i) m (m+i) k:=by
 unfold qS;rw[DU e i YG YG]
 grind
theorem EW(d:Array α)(h:m<=a\/b<=m)(IJ:a<=m)(hb:m<=b)(k:Nat):d[k]! = qS d a m b k:=by
 unfold qS
 grind
def shU(d:Array α)(a:Nat):Nat->Array α
 |0=>d
 |n+1=>swp (shU d a n) (a+n) (a+n+1)
theorem wj(d:Array α)(a:Nat):∀n,(shU d a n).size=d.size
 |0=>rfl
 |n+1=>by rw[shU,size_swp,wj d a n]
theorem Rl(d:Array α){a hi:Nat}:∀n,a+n<hi->hi<=d.size->PermIn a hi d (shU d a n)
 |0,_,_=>permIn_refl _ _ _
 |n+1,h2,h5=>permIn_trans _ _ _ _ _ (Rl d n YG h5) (swp_permIn _ _ _ _ _ YG YG YG YG Zx)
theorem Zaw(d:Array α){a:Nat}:∀n,a+n<d.size->∀k,(shU d a n)[k]! = qS d a (a+1) (a+1+n) k
 |0,h,k=>EW d (.inr YG) YG YG k
 |n+1,h,k=>by
  have ih:=Zaw d (a:=a) n YG;rw[shU,swp_get (shU d a n) (i:=a+n) (j:=a+n+1) Zx Zx,ih,ih,ih];unfold qS
  grind
def shD(d:Array α)(m:Nat):Nat->Array α
 |0=>d
 |n+1=>swp (shD d m n) (m-n) (m-n-1)
theorem we(d:Array α)(m:Nat):∀n,(shD d m n).size=d.size
 |0=>rfl
 |n+1=>by rw[shD,size_swp,we d m n]
theorem Rk(d:Array α){m lo:Nat}:∀n,lo+n<=m->m<d.size->PermIn lo (m+1) d (shD d m n)
 |0,_,_=>permIn_refl _ _ _
 |n+1,h2,h5=>permIn_trans _ _ _ _ _ (Rk d n YG h5) (swp_permIn _ _ _ _ _ YG YG YG YG Zy)
theorem Zav(d:Array α){m:Nat}:∀n,n<=m->m<d.size->∀k,(shD d m n)[k]! = qS d (m-n) m (m+1) k
 |0,h,h',k=>EW d (.inl YG) YG YG k
 |n+1,h,h',k=>by
  have ih:=Zav d (m:=m) n YG h';rw[shD,swp_get (shD d m n) (i:=m-n) (j:=m-n-1) Zy Zy,ih,ih,ih];unfold qS
  grind
variable {lt:α->α->Bool}
theorem xq(hO:SWO lt){d:Array α}(h:SortedIn lt a b d)(h1:a<=i)(h2:i<=j)(h3:j<b):lt d[j]! d[i]! = false:=by
 rcases Wg i j with h4|h4
 ·exact h i j h1 h4 h3
 ·have:i=j:=YG
  subst this;exact hO.irrefl _
theorem AK{a b a' b':Nat}{d:Array α}(h:SortedIn lt a b d)(h1:a<=a')(h2:b'<=b):SortedIn lt a' b' d:=λi j hi C9 hj=>h i j YG C9 YG
theorem Cj{d e:Array α}(h:SortedIn lt a b d)(he:∀k,a<=k->k<b->e[k]! = d[k]!):SortedIn lt a b e:=λi j hi C9 hj=>by
 rw[he i hi YG,he j YG hj];exact h i j hi C9 hj
theorem Zaz{d:Array α}(h:b<=a+1):SortedIn lt a b d:=λi j hi C9 hj=>YG
theorem Zkx(hO:SWO lt){a m b s t mid:Nat}{d e:Array α}(h1:SortedIn lt a m d)(h2:SortedIn lt m b d)(hs:a<=s/\s<=m)(ht:m<=t/\t<=b)(ZkJ:s+(t-m)=mid)
 (c1:a<s->t<b->lt d[t]! d[s-1]! = ZD) (c2:s<m->m<t->lt d[t-1]! d[s]! = ZC) (hr:∀k,e[k]! = qS d s m t k):
 SortedIn lt a s e/\SortedIn lt s mid e/\SortedIn lt mid t e/\SortedIn lt t b e/\∀i j,a<=i->i<mid->mid<=j->j<b->lt e[j]! e[i]! = false:=by
 have g1:∀k,k<s->e[k]! = d[k]!:=λk h=>by rw[hr];unfold qS;grind
 have g2:∀k,s<=k->k<mid->e[k]! = d[m+(k-s)]!:=λk h h'=>by rw[hr];unfold qS;simp_all
 have g3:∀k,mid<=k->k<t->e[k]! = d[k-(t-m)]!:=λk h h'=>by rw[hr];unfold qS;grind
 have g4:∀k,t<=k->e[k]! = d[k]!:=λk h=>by rw[hr];unfold qS;rw[if_neg YG,if_neg YG]
 refine⟨λi j hi C9 hj=>?_,λi j hi C9 hj=>?_,λi j hi C9 hj=>?_,λi j hi C9 hj=>?_,λi j hi lS hj yr=>?_⟩
 ·rw[g1 i YG,g1 j hj];exact h1 i j hi C9 YG
 ·rw[g2 i hi YG,g2 j YG hj];exact h2 _ _ YG YG YG
 ·rw[g3 i hi YG,g3 j YG hj];exact h1 _ _ YG YG YG
 ·rw[g4 i hi,g4 j YG];exact h2 i j YG C9 hj
 ·rcases Wg i s with x|x<;>rcases Wg j t with y|y
  ·rw[g1 i x,g3 j hj y];exact h1 _ _ hi YG YG
  ·rw[g1 i x,g4 j y]
   have a1:=xq hO h2 (i:=t) (j:=j) ht.1 y yr;have a2:=c1 YG YG;have a3:=xq hO h1 (i:=i) (j:=s-1) hi YG YG;exact hO.ntrans _ _ _ (hO.ntrans _ _ _ a1 a2) a3
  ·rw[g2 i x lS,g3 j hj y]
   have a1:=xq hO h2 (i:=m+(i-s)) (j:=t-1) YG YG YG;have a2:=c2 YG YG;have a3:=xq hO h1 (i:=s) (j:=j-(t-m)) hs.1 YG YG
   cases hv:lt d[j-(t-m)]! d[m+(i-s)]! with
   |false=>rfl
   |true=>
    cases hw:lt d[j-(t-m)]! d[t-1]! with
    |false=>rw[hO.ntrans _ _ _ hw a1]at hv;grind
    |true=>rw[hO.trans _ _ _ hw a2]at a3;omega
  ·rw[g2 i x lS,g4 j y];exact h2 _ _ YG YG yr
theorem glue(hO:SWO lt){a mid b:Nat}{e e1 e2:Array α}(hb:b<=e.size)(ha:a<=mid)(hm:mid<=b)(p1:PermIn a mid e e1)(p2:PermIn mid b e1 e2)(s1:SortedIn lt a mid e1)(s2:SortedIn lt mid b e2)
 (hc:∀i j,a<=i->i<mid->mid<=j->j<b->lt e[j]! e[i]! = ZD):PermIn a b e e2/\SortedIn lt a b e2:=by
 have z1:=p1.1;have z2:=p2.1;refine⟨permIn_trans _ _ _ _ _ (permIn_mono _ _ _ _ _ _ (VJ _) hm hb p1) (permIn_mono _ _ _ _ _ _ ha (VJ _) YG p2),λi j hi C9 hj=>?_⟩
 have k1:∀i j,a<=i->i<mid->mid<=j->j<b->lt e1[j]! e1[i]! = false:=λi j hi lS hj yr=>by
  rw[p1.2.1 j (.inr hj)];exact permIn_all e e1 a mid (λx=>lt e[j]! x=ZD) YG p1 (λi h h'=>hc i j h h' hj yr) i hi lS
 have k2:∀i j,a<=i->i<mid->mid<=j->j<b->lt e2[j]! e2[i]! = false:=λi j hi lS hj yr=>by
  rw[p2.2.1 i (.inl lS)];exact permIn_all e1 e2 mid b (λy=>lt y e1[i]! = ZD) YG p2 (λj h h'=>k1 i j hi lS h h') j hj yr
 rcases Wg i mid with x|x
 ·rcases Wg j mid with y|y
  ·rw[p2.2.1 i (.inl x),p2.2.1 j (.inl y)];exact s1 i j hi C9 y
  simp_all
 ·exact s2 i j x C9 hj
theorem ZeY(hO:SWO lt){d e:Array α}(h:SortedIn lt (a+1) b d)(h1:a+1<=i)(h2:i<=b)(c1:i=a+1\/lt d[i-1]! d[a]! = ZC)(c2:i=b\/lt d[i]! d[a]! = ZD)(hr:∀k,e[k]! = qS d a (a+1) i k):SortedIn lt a b e:=by
 have g1:∀k,a<=k->k<i-1->e[k]! = d[k+1]!:=λk h h'=>by rw[hr];unfold qS;grind
 have g2:e[i-1]! = d[a]!:=by rw[hr];unfold qS;grind
 have g3:∀k,i<=k->e[k]! = d[k]!:=λk h=>by rw[hr];unfold qS;grind
 have lo:∀p,a<=p->p<i-1->lt d[a]! d[p+1]! = false:=λp h5 h6=>by
  rcases c1 with c1|c1
  ·omega
  ·exact hO.ntrans _ _ _ (hO.asymmA c1) (xq hO h (i:=p+1) (j:=i-1) YG YG YG)
 have hi:∀q,i<=q->q<b->lt d[q]! d[a]! = false:=λq h5 h6=>by
  rcases c2 with c2|c2
  ·omega
  ·exact hO.ntrans _ _ _ (xq hO h (i:=i) (j:=q) h1 h5 h6) c2
 intro p q hp hpq hq
 rcases W1 p (i-1)with x|x|x
 ·rcases W1 q (i-1)with y|y|y
  ·rw[g1 p hp x,g1 q YG y];exact h _ _ YG YG YG
  ·simp_all
  ·rw[g1 p hp x,g3 q YG];exact h _ _ YG YG hq
 ·grind
 ·rw[g3 p YG,g3 q YG];exact h _ _ YG hpq hq
theorem ZbS(hO:SWO lt){d e:Array α}(h:SortedIn lt a m d)(h1:a<=i)(h2:i<=m)(c1:i=a\/lt d[m]! d[i-1]! = ZD)(c2:i=m\/lt d[m]! d[i]! = ZC)(hr:∀k,e[k]! = qS d i m (m+1) k):SortedIn lt a (m+1) e:=by
 have g1:∀k,k<i->e[k]! = d[k]!:=λk h=>by rw[hr];unfold qS;grind
 have g2:e[i]! = d[m]!:=by rw[hr];unfold qS;simp
 have g3:∀k,i<k->k<=m->e[k]! = d[k-1]!:=λk h h'=>by rw[hr];unfold qS;grind
 have lo:∀p,a<=p->p<i->lt d[m]! d[p]! = false:=λp h5 h6=>by
  rcases c1 with c1|c1
  ·omega
  ·exact hO.ntrans _ _ _ c1 (xq hO h (i:=p) (j:=i-1) h5 YG YG)
 have hi:∀q,i<q->q<=m->lt d[q-1]! d[m]! = false:=λq h5 h6=>by
  rcases c2 with c2|c2
  ·omega
  ·exact hO.ntrans _ _ _ (xq hO h (i:=i) (j:=q-1) h1 YG YG) (hO.asymmA c2)
 intro p q hp hpq hq
 rcases W1 p i with x|x|x
 ·rcases W1 q i with y|y|y
  ·rw[g1 p x,g1 q y];exact h _ _ hp hpq YG
  ·simp_all
  ·rw[g1 p x,g3 q y YG];exact xq hO h YG YG YG
 ·grind
 ·rw[g3 p x YG,g3 q YG YG];exact xq hO h YG YG YG
def Zdj(lt:α->α->Bool)(bs n:Nat)(d:Array α):Prop:=∀q,SortedIn lt (q*bs) (min (q*bs+bs) n) d
end
end Go.Proofs.YtbalgkakkoocjaaGreat
namespace Go.Proofs.YtbalgkakkoocjaaGreat
set_option maxRecDepth 10000
open Go.RowKit Go.Lib Go.Sort
set_option maxRecDepth 100000
variable {W w0:World}
section
variable {α:Type} [Inhabited α] {enc:α->List Value} {k:Nat} {g:Nat} {T:TypeId} {cs:Nat}
structure SU(enc:α->List Value)(k:Nat)(g:Nat)(T:TypeId)(cs:Nat)(w0:World)(d:Array α)(W:World):Prop where
 up:mA (λb=>b=g) w0 W
 hold:HoldsK enc k W g 0 d
 row:∃cells,W.heap[g]?=ZA (.cells cells T (0,0))/\cells.size=cs
theorem SU.lt{d:Array α}(h:SU enc k g T cs w0 d W):g<W.heap.size:=by
 obtain⟨c,h1,_⟩:=h.row;exact(Array.getElem?_eq_some_iff.1 h1).1
theorem SU.more{w0 W W':World}{d:Array α}(h:SU enc k g T cs w0 d W)(u:Up W W'):SU enc k g T cs w0 d W':=by
 have hl:=h.lt;refine⟨⟨u.os.trans h.up.os,u.tape.trans h.up.tape,u.output.trans h.up.output,Nat.le_trans h.up.size u.size,λb hb hn=>(u.block b (Nat.lt_of_lt_of_le hb h.up.size)).trans (h.up.block b hb hn)⟩,λj hj=>⟨(u.cell (p:=⟨g,0+j,ZB⟩) hl).trans (h.hold j hj).1,(u.frozen (p:=⟨g,0+j,ZB⟩) hl).trans (h.hold j hj).2⟩,?_⟩
 obtain⟨c,h1,h2⟩:=h.row;exact⟨c,(u.block g hl).trans h1,h2⟩
theorem SU.trans{w0 W W':World}{d d':Array α}(h:SU enc k g T cs w0 d W)(h':SU enc k g T cs W d' W'):SU enc k g T cs w0 d' W':=⟨h.up.trans h'.up λ_ _ h=>h,h'.hold,h'.row⟩
theorem SU.self{d:Array α}(h:SU enc k g T cs w0 d W):SU enc k g T cs W d W:=⟨mA.refl _ _,h.hold,h.row⟩
theorem SU.tq{d:Array α}(h:SU enc k g T cs w0 d W){b o:Nat}(hb:b<w0.heap.size)(hn:b≠g):W.cell? ⟨b,o,ZB⟩=w0.cell? ⟨b,o,ZB⟩:=cell_of_heap (h.up.block b hb hn)
theorem SU.swap(hk:∀x,(enc x).length=k){d:Array α}(h:SU enc k g T cs w0 d W){i j:Nat}(hi:i<d.size)(hj:j<d.size):SU enc k g T cs w0 (swp d i j) ((W.setCells g (i*k) (enc d[j]!)).setCells g (j*k) (enc d[i]!)):=by
 have e:=putRowK_swp enc k hk W g 0 d i j hi hj;rw[putRowK_self enc k W g 0 d h.hold,VY,VY]at e
 rw[e];have hl:=h.lt;refine⟨h.up.trans (O':=λb=>b=g) ⟨rfl,rfl,rfl,by rw[size_putRowK];exact VJ _,λb hb hn=>?_⟩ λ_ _ h=>h,holdsK_putRowK enc k W g 0 d _ h.hold (size_swp _ _ _),?_⟩
 ·show(W.heap.modify g _)[b]?=_
  rw[Array.getElem?_modify,if_neg (λe=>hn e.symm)]
 ·obtain⟨c,h1,h2⟩:=h.row
  refine⟨putCells id 0 (flatK enc k (swp d i j)) c,?_,?_⟩
  ·show(W.heap.modify g _)[g]?=_
   rw[Array.getElem?_modify,if_pos rfl,h1];rfl
  ·simp[putCells,h2]
def wL(f:Nat)(lb:Array Value)(enc:α->List Value)(k:Nat)(lt:α->α->Bool)(g:Nat)(T:TypeId)(cs n:Nat)(w0:World):Prop:=
 ∀(d:Array α) (W:World),SU enc k g T cs w0 d W->d.size=n->∀i j:Nat,i<n->j<n->Calls prog f (#[ZF ZG i,ZF ZG j]++lb) W λe w'=>e=.returned (.bool (lt d[i]! d[j]!))/\Up W w'
theorem wL.on{f:Nat}{lb:Array Value}{lt:α->α->Bool}{n:Nat}{d:Array α}(h:wL f lb enc k lt g T cs n w0)(hW:SU enc k g T cs w0 d W):wL f lb enc k lt g T cs n W:=λd' W' h'=>h d' W' (hW.trans h')
abbrev LS(f:Nat)(lb:Array Value)(sf:Nat)(sb:Array Value):Value:=.agg #[.func (.func f) #[] lb,.func (.func sf) #[] sb]
abbrev vz(f:Nat)(lb:Array Value)(sf:Nat)(sb:Array Value):Obj:=.cells #[.func (.func f) #[] lb,.func (.func sf) #[] sb] 329
variable (hk:∀x,(enc x).length=k) (f:Nat) (lb:Array Value) (sf:Nat) (sb:Array Value) (n:Nat) (hn:n<1152921504606846976) (ri:SwapSwapsK prog sf sb enc k g 0 n)
include hk hn ri
theorem Zi6{d:Array α}(hd:d.size=n)(h0:SU enc k g T cs W d W)(a b m:Nat)(h1:a+m<=b)(h2:b+m<=n):
 Calls prog 381 #[LS f lb sf sb,ZF ZG a,ZF ZG b,ZF ZG m] W λe w'=>e=.returned (.tuple #[])/\SU enc k g T cs W (zY d a b m) w':=by
 have hg:=h0.lt;have hB:SU enc k g T cs W d (W.alloc (vz f lb sf sb)):=h0.more (Up.al _ (Up.rfl' W))
 go_enter func381,ntmps381
 go_wp2
 go_loopw [8] (λvi wr=>∃i:Nat,vi=ZF ZG i/\i<=m/\SU enc k g T cs (W.alloc (vz f lb sf sb)) (zY d a b i) wr) (λvi _=>m-(intOf vi).toNat)
 case atStart=>exact⟨0,by go_num,YG,hB.self⟩
 case round=>
  obtain⟨i,rfl,him,hS⟩:=hrel;have c1:wr.cell? ⟨W.heap.size,1,ZB⟩=ZA (.func (.func sf) #[] sb):=by rw[hS.tq YJ YG];simp
  have HS:Hid (SU enc k g T cs (W.alloc (vz f lb sf sb)) (zY d a b i) wr):=hS;clear hS
  by_cases hi:i<m
  ·have hs:=ri wr (zY d a b i) HS.out.hold (by rw[qI];exact hd) (a+i) (b+i) YG YG
   rw[show((a+i:Nat):Int)=(a:Int)+(i:Int)by omega,show((b+i:Nat):Int)=(b:Int)+(i:Int)by omega]at hs
   go_wp2
   exact⟨⟨i+1,by go_num,YG,HS.out.swap hk Zw Zw⟩,by simp[intOf];omega⟩
  ·go_wp2
   go_end0
   have:i=m:=YG;subst this;exact⟨rfl,hB.trans HS.out⟩
theorem Zgb{d:Array α}(hd:d.size=n)(h0:SU enc k g T cs W d W)(a m b:Nat)(h1:a<=m)(h2:m<=b)(h3:b<=n)(h4:a<m/\m<b):
 Calls prog 366 #[LS f lb sf sb,ZF ZG a,ZF ZG m,ZF ZG b] W λe w'=>e=.returned (.tuple #[])/\∃e,SU enc k g T cs W e w'/\PermIn a b d e/\∀k,e[k]! = qS d a m b k:=by
 have hg:=h0.lt;have hB:SU enc k g T cs W d (W.alloc (vz f lb sf sb)):=h0.more (Up.al _ (Up.rfl' W));have hsw:=fun(d':Array α) (W':World) (yL:d'.size=n) (h':SU enc k g T cs W' d' W') (a b m:Nat) (h1:a+m<=b) (h2:b+m<=n)=>Zi6 hk f lb sf sb n hn ri (T:=T) (cs:=cs) yL h' a b m h1 h2
 go_enter func366,ntmps366
 go_wp2
 go_loopw [8,9] (λvi vj wr=>∃(i j:Nat) (e:Array α),vi=ZF ZG i/\vj=ZF ZG j/\0<i/\0<j/\i<=m-a/\j<=b-m/\e.size=n/\PermIn a b d e/\(∀k,qS e (m-i) m (m+j) k=qS d a m b k)/\SU enc k g T cs (W.alloc (vz f lb sf sb)) e wr) (λvi vj _=>(intOf vi).toNat+(intOf vj).toNat)
 case atStart=>exact⟨m-a,b-m,d,by go_num,by go_num,YG,YG,VJ _,VJ _,hd,permIn_refl _ _ _,λk=>by rw[show m-(m-a)=a by omega,show m+(b-m)=b by omega],hB.self⟩
 case round=>
  obtain⟨i,j,e,rfl,rfl,hi,hj,hia,hjb,he,hP,hR,hS⟩:=hrel;have c0:wr.cell? ⟨W.heap.size,0,ZB⟩=ZA (.func (.func f) #[] lb):=by rw[hS.tq YJ YG];simp
  have c1:wr.cell? ⟨W.heap.size,1,ZB⟩=ZA (.func (.func sf) #[] sb):=by rw[hS.tq YJ YG];simp
  have HS:Hid (SU enc k g T cs (W.alloc (vz f lb sf sb)) e wr):=hS;have HR:Hid (∀k,qS e (m-i) m (m+j) k=qS d a m b k):=hR;have HB:Hid (SU enc k g T cs W d (W.alloc (vz f lb sf sb))):=hB;clear hS hR hB h0
  by_cases C9:i=j
  ·subst C9
   have q:=hsw e wr he HS.out.self (m-i) m i YG YG;rw[show((m-i:Nat):Int)=(m:Int)-(i:Int)by omega]at q
   go_wp2_with (go_at_call 381;refine q.mono ?_;rintro e w' ⟨rfl,hw⟩)
   go_end0
   exact⟨rfl,zY e (m-i) m i,(HB.out.trans HS.out).trans hw,permIn_trans _ _ _ _ _ hP (AM e YG i YG YG YG YG),λk=>(ZiS e YG YG k).trans (HR.out k)⟩
  ·by_cases GS:j<i
   ·have q:=hsw e wr he HS.out.self (m-i) m j YG YG
    rw[show((m-i:Nat):Int)=(m:Int)-(i:Int)by omega]at q
    go_wp2_with (go_at_call 381;refine q.mono ?_;rintro e w' ⟨rfl,hw⟩)
    refine⟨⟨i-j,j,zY e (m-i) m j,by go_num,rfl,YG,hj,YG,hjb,by rw[qI];exact he,permIn_trans _ _ _ _ _ hP (AM e YG j YG YG YG YG),λk=>?_,HS.out.trans hw⟩,by simp[intOf];omega⟩
    rw[show m-(i-j)=m-i+j by omega]
    exact(ZiT e GS YG YG k).trans (HR.out k)
   ·have q:=hsw e wr he HS.out.self (m-i) (m+j-i) i YG YG
    rw[show((m-i:Nat):Int)=(m:Int)-(i:Int)by omega,show((m+j-i:Nat):Int)=(m:Int)+(j:Int)-(i:Int)by omega]at q
    go_wp2_with (go_at_call 381;refine q.mono ?_;rintro e w' ⟨rfl,hw⟩)
    refine⟨⟨i,j-i,zY e (m-i) (m+j-i) i,rfl,by go_num,hi,YG,hia,YG,by rw[qI];exact he,permIn_trans _ _ _ _ _ hP (AM e YG i YG YG YG YG),λk=>?_,HS.out.trans hw⟩,by simp[intOf];omega⟩
    rw[show m+(j-i)=m+j-i by omega]
    exact(ZiU e YG YG YG k).trans (HR.out k)
omit hk hn ri in
theorem GZ{lt:α->α->Bool}{d0:Array α}(hL:wL f lb enc k lt g T cs n W)(h0:SU enc k g T cs W d0 W){dj:Array α}{wr:World}(hS:SU enc k g T cs (W.alloc (vz f lb sf sb)) dj wr)(hd:dj.size=n)(hsw:SwapSwapsK prog sf sb enc k g 0 n)(i j:Nat)(hi:i<n)(hj:j<n):
 Calls prog f (#[ZF ZG i,ZF ZG j]++lb) wr λe w'=>e=.returned (.bool (lt dj[i]! dj[j]!))/\SU enc k g T cs (W.alloc (vz f lb sf sb)) dj w'/\w'.cell? ⟨W.heap.size,0,ZB⟩=ZA (.func (.func f) #[] lb)/\w'.cell? ⟨W.heap.size,1,ZB⟩=ZA (.func (.func sf) #[] sb)/\
  (callFunc sf (#[ZF ZG i,ZF ZG j]++sb)).run prog w'=.ok (.value (.tuple #[])) ((w'.setCells g (i*k) (enc dj[j]!)).setCells g (j*k) (enc dj[i]!)):=by
 have hg:=h0.lt;refine(hL.on (h0.more (Up.al _ (Up.rfl' W))) dj wr hS hd i j hi hj).mono ?_;rintro e w' ⟨he,hu⟩;have hS':=hS.more hu;have hs:=hsw w' dj hS'.hold hd i j hi hj;rw[VY,VY]at hs
 exact⟨he,hS',by rw[hS'.tq YJ YG];simp,by rw[hS'.tq YJ YG];simp,hs⟩
theorem ZbR{lt:α->α->Bool}(eg:∀args w,(callFunc f args).run prog w=.ok (.enter f args) w){d:Array α}(hd:d.size=n)(h0:SU enc k g T cs W d W)(hL:wL f lb enc k lt g T cs n W)(a b:Nat)(IJ:a<=b)(hb:b<=n):
 Calls prog 339 #[LS f lb sf sb,ZF ZG a,ZF ZG b] W λe w'=>e=.returned (.tuple #[])/\SU enc k g T cs W (Sort.insertionSort lt d a b) w':=by
 have hB:SU enc k g T cs W d (W.alloc (vz f lb sf sb)):=h0.more (Up.al _ (Up.rfl' W));have xI:=λdj wr hS yL i j hi hj=>GZ (dj:=dj) (wr:=wr) f lb sf sb n hL h0 hS yL ri i j hi hj
 have HB:Hid (SU enc k g T cs W d (W.alloc (vz f lb sf sb))):=hB;have hg:=h0.lt;clear h0 hL
 go_enter func339,ntmps339
 go_wp2
 go_loopw [6] (λvi wr=>∃(i:Nat) (dk:Array α),vi=ZF ZG i/\a<i/\i<=b+1/\dk.size=n/\SU enc k g T cs (W.alloc (vz f lb sf sb)) dk wr/\
  insOuter lt a b i dk=insOuter lt a b (a+1) d) (λvi _=>b+1-(intOf vi).toNat)
 case atStart=>exact⟨a+1,d,by go_num,YG,YG,hd,hB.self,rfl⟩
 case round=>
  obtain⟨i,dk,rfl,hai,hib,hsk,BU,hO⟩:=hrel;have HO:Hid (insOuter lt a b i dk=insOuter lt a b (a+1) d):=hO;clear hO
  go_wp2
  ·go_loopw [7] (λvj wr2=>∃(j:Nat) (dj:Array α),vj=ZF ZG j/\a<=j/\j<=i/\dj.size=n/\SU enc k g T cs (W.alloc (vz f lb sf sb)) dj wr2/\
    insInner lt a j dj=insInner lt a i dk) (λvj _=>(intOf vj).toNat)
   case atStart=>exact⟨i,dk,rfl,YG,VJ _,hsk,BU,rfl⟩
   case round=>
    obtain⟨j,dj,rfl,haj,Cl,hsj,Fv,hI⟩:=hrel;have bO:i<b:=by assumption
    have c0:wr.cell? ⟨W.heap.size,0,ZB⟩=ZA (.func (.func f) #[] lb):=by rw[Fv.tq YJ YG];simp
    have c1:wr.cell? ⟨W.heap.size,1,ZB⟩=ZA (.func (.func sf) #[] sb):=by rw[Fv.tq YJ YG];simp
    have HW:Hid (SU enc k g T cs (W.alloc (vz f lb sf sb)) dj wr):=Fv;have HI:Hid (insInner lt a j dj=insInner lt a i dk):=hI;clear Fv hI BU hB;have out:(j<=a\/lt dj[j]! dj[j-1]! = ZD)->∀W',SU enc k g T cs (W.alloc (vz f lb sf sb)) dj W'->∃(i':Nat) (dk':Array α),Value.int .i64 ((i:Int)+1)=ZF ZG (i':Nat)/\a<i'/\i'<=b+1/\dk'.size=n/\
     SU enc k g T cs (W.alloc (vz f lb sf sb)) dk' W'/\insOuter lt a b i' dk'=insOuter lt a b (a+1) d:=λhs W' hW=>
     ⟨i+1,dj,by go_num,YG,YG,hsj,hW,
      by rw[<-HO.out,insOuter_go _ _ _ _ _ bO,<-HI.out,insInner_stop _ _ _ _ hs]⟩
    have OUT:Hid _:=out;clear out
    by_cases hja:a<j
    ·have hl:=xI dj wr HW.out hsj j (j-1) YG YG
     rw[show(((j-1:Nat):Int))=(j:Int)-1 by omega]at hl
     clear xI
     cases vE:lt dj[j]! dj[j-1]! with
     |true=>
      rw[vE]at hl
      go_wp2_with (go_at_fn f;refine hl.mono ?_;rintro e w' ⟨rfl,hS,c0',c1',hs⟩)
      refine⟨?_,by simp[intOf];omega⟩
      (repeat apply Exists.intro)
      refine⟨⟨j-1,swp dj j (j-1),by congr 1<;>omega,YG,YG,by rw[size_swp];exact hsj,hS.swap hk YG YG,?_⟩,by rw[Yp bO,show((j-1:Nat):Int)=(j:Int)-1 by omega]⟩
      rw[<-HI.out,insInner_go lt a j dj hja vE]
     |false=>
      rw[vE]at hl
      go_wp2_with (go_at_fn f;refine hl.mono ?_;rintro e w' ⟨rfl,hS,c0',c1',hs⟩)
      exact⟨OUT.out (.inr vE) _ hS,by simp[intOf];omega⟩
    ·go_wp2
     exact⟨OUT.out (.inl YG) _ HW.out,by simp[intOf];omega⟩
  ·have Ev:¬i<b:=by assumption
   go_end0
   exact⟨rfl,by unfold Sort.insertionSort;rw[<-HO.out,insOuter_stop _ _ _ _ _ Ev];exact HB.out.trans BU⟩
end
section
variable {α:Type} [Inhabited α] {enc:α->List Value} {k:Nat} {g:Nat} {T:TypeId} {cs:Nat}
variable (hk:∀x,(enc x).length=k) (f:Nat) (lb:Array Value) (sf:Nat) (sb:Array Value) (n:Nat) (hn:n<1152921504606846976) (ri:SwapSwapsK prog sf sb enc k g 0 n)
include hk hn ri
theorem ZlI{lt:α->α->Bool}(hO:SWO lt)(eg:∀args w,(callFunc f args).run prog w=.ok (.enter f args) w){d:Array α}(hd:d.size=n)(h0:SU enc k g T cs W d W)(hL:wL f lb enc k lt g T cs n W)(a m b:Nat)(h1:m=a+1)(h2:m<b)(hb:b<=n)(hs:SortedIn lt m b d):
 Calls prog 340 #[LS f lb sf sb,ZF ZG a,ZF ZG m,ZF ZG b] W λe w'=>e=.returned (.tuple #[])/\∃e,SU enc k g T cs W e w'/\PermIn a b d e/\SortedIn lt a b e:=by
 have hB:SU enc k g T cs W d (W.alloc (vz f lb sf sb)):=h0.more (Up.al _ (Up.rfl' W));have xI:=λdj wr hS yL i j hi hj=>GZ (dj:=dj) (wr:=wr) f lb sf sb n hL h0 hS yL ri i j hi hj
 have HB:Hid (SU enc k g T cs W d (W.alloc (vz f lb sf sb))):=hB;have HSs:Hid (SortedIn lt m b d):=hs;have hg:=h0.lt;clear h0 hL hs;have hma:(m:Int)-(a:Int)=1:=YG;have H1:Hid (m=a+1):=h1;clear h1
 go_enter func340,ntmps340
 go_wp2
 go_loopw [8,9] (λvi vj wr=>∃(i j:Nat),vi=ZF ZG i/\vj=ZF ZG j/\m<=i/\i<=j/\j<=b/\(i=m\/lt d[i-1]! d[a]! = ZC)/\(j=b\/lt d[j]! d[a]! = ZD)/\SU enc k g T cs (W.alloc (vz f lb sf sb)) d wr) (λvi vj _=>(intOf vj).toNat-(intOf vi).toNat)
 case atStart=>exact⟨m,b,rfl,rfl,YG,YG,YG,.inl rfl,.inl rfl,hB.self⟩
 case round=>
  obtain⟨i,j,rfl,rfl,hi,C9,hj,Kc,Of,hS⟩:=hrel;have c0:wr.cell? ⟨W.heap.size,0,ZB⟩=ZA (.func (.func f) #[] lb):=by rw[hS.tq YJ YG];simp
  have c1:wr.cell? ⟨W.heap.size,1,ZB⟩=ZA (.func (.func sf) #[] sb):=by rw[hS.tq YJ YG];simp
  have HS:Hid (SU enc k g T cs (W.alloc (vz f lb sf sb)) d wr):=hS;have HC1:Hid (i=m\/lt d[i-1]! d[a]! = ZC):=Kc;have HC2:Hid (j=b\/lt d[j]! d[a]! = ZD):=Of;clear hS hB Kc Of
  by_cases bO:i<j
  ·have hl:=xI d wr HS.out hd ((i+j) / 2) a YG YG
   rw[show(((i+j) / 2:Nat):Int)=((i:Int)+(j:Int)) / 2 by omega]at hl
   clear xI
   cases vE:lt d[(i+j) / 2]! d[a]! with
   |true=>
    rw[vE]at hl
    go_wp2_with (go_at_fn f;refine hl.mono ?_;rintro e w' ⟨rfl,hS,c0',c1',_⟩)
    refine⟨?_,by simp[intOf];omega⟩
    exact⟨(i+j) / 2+1,j,by go_num,rfl,YG,YG,YG,.inr (by rw[Xp];exact vE),HC2.out,hS⟩
   |false=>
    rw[vE]at hl
    go_wp2_with (go_at_fn f;refine hl.mono ?_;rintro e w' ⟨rfl,hS,c0',c1',_⟩)
    refine⟨?_,by simp[intOf];omega⟩
    exact⟨i,(i+j) / 2,rfl,by go_num,YG,YG,YG,HC1.out,.inr vE,hS⟩
  ·have ZkF:i=j:=YG
   subst ZkF
   go_wp2
   go_loopw [11] (λvq wr2=>∃q:Nat,vq=ZF ZG ((a:Int)+(q:Int))/\a+q+1<=i/\SU enc k g T cs (W.alloc (vz f lb sf sb)) (shU d a q) wr2) (λvq _=>i-(intOf vq).toNat)
   case atStart=>exact⟨0,by go_num,YG,HS.out⟩
   case round=>
    obtain⟨q,rfl,hq,Mw⟩:=hrel;have c0:wr.cell? ⟨W.heap.size,0,ZB⟩=ZA (.func (.func f) #[] lb):=by rw[Mw.tq YJ YG];simp
    have c1:wr.cell? ⟨W.heap.size,1,ZB⟩=ZA (.func (.func sf) #[] sb):=by rw[Mw.tq YJ YG];simp
    have R6:Hid (SU enc k g T cs (W.alloc (vz f lb sf sb)) (shU d a q) wr):=Mw;clear Mw
    by_cases hqi:a+q+1<i
    ·have hs:=ri wr (shU d a q) R6.out.hold (by rw[wj];exact hd) (a+q) (a+q+1) YG YG
     rw[VY,VY,show((a+q+1:Nat):Int)=(a:Int)+(q:Int)+1 by omega,show((a+q:Nat):Int)=(a:Int)+(q:Int)by omega]at hs
     have ZkH:(a:Int)+(q:Int)<(i:Int)-1:=YG
     go_wp2
     exact⟨⟨q+1,by congr 1,YG,R6.out.swap hk Zx Zx⟩,by simp[intOf];omega⟩
    ·have Zpo:¬(a:Int)+(q:Int)<(i:Int)-1:=YG
     go_wp2
     (try simp only[Exit.inBlock,Exit.then])
     refine bodyPost_ret (results_none rfl _ _ _) rfl ?_;refine⟨rfl,shU d a q,HB.out.trans R6.out,Rl d q YG YG,?_⟩;obtain rfl:=H1.out;exact ZeY hO HSs.out YG hj HC1.out HC2.out (λk=>by rw[show i=a+1+q by omega];exact Zaw d q YG k)
theorem ZlJ{lt:α->α->Bool}(hO:SWO lt)(eg:∀args w,(callFunc f args).run prog w=.ok (.enter f args) w){d:Array α}(hd:d.size=n)(h0:SU enc k g T cs W d W)(hL:wL f lb enc k lt g T cs n W)(a m b:Nat)(h1:b=m+1)(h2:a+1<m)(hb:b<=n)(hs:SortedIn lt a m d):
 Calls prog 340 #[LS f lb sf sb,ZF ZG a,ZF ZG m,ZF ZG b] W λe w'=>e=.returned (.tuple #[])/\∃e,SU enc k g T cs W e w'/\PermIn a b d e/\SortedIn lt a b e:=by
 have hB:SU enc k g T cs W d (W.alloc (vz f lb sf sb)):=h0.more (Up.al _ (Up.rfl' W));have xI:=λdj wr hS yL i j hi hj=>GZ (dj:=dj) (wr:=wr) f lb sf sb n hL h0 hS yL ri i j hi hj
 have HB:Hid (SU enc k g T cs W d (W.alloc (vz f lb sf sb))):=hB;have HSs:Hid (SortedIn lt a m d):=hs;have hg:=h0.lt;clear h0 hL hs;have hna:((m:Int)-(a:Int)==1)=false:=by simp;omega
 have hmb:(b:Int)-(m:Int)=1:=YG;have H1:Hid (b=m+1):=h1;have Zrv:m<b:=YG;clear h1
 go_enter func340,ntmps340
 go_wp2
 clear hna hmb
 go_loopw [12,13] (λvi vj wr=>∃(i j:Nat),vi=ZF ZG i/\vj=ZF ZG j/\a<=i/\i<=j/\j<=m/\(i=a\/lt d[m]! d[i-1]! = ZD)/\(j=m\/lt d[m]! d[j]! = ZC)/\SU enc k g T cs (W.alloc (vz f lb sf sb)) d wr) (λvi vj _=>(intOf vj).toNat-(intOf vi).toNat)
 case atStart=>exact⟨a,m,rfl,rfl,YG,YG,YG,.inl rfl,.inl rfl,hB.self⟩
 case round=>
  obtain⟨i,j,rfl,rfl,hi,C9,hj,Kc,Of,hS⟩:=hrel;have c0:wr.cell? ⟨W.heap.size,0,ZB⟩=ZA (.func (.func f) #[] lb):=by rw[hS.tq YJ YG];simp
  have c1:wr.cell? ⟨W.heap.size,1,ZB⟩=ZA (.func (.func sf) #[] sb):=by rw[hS.tq YJ YG];simp
  have HS:Hid (SU enc k g T cs (W.alloc (vz f lb sf sb)) d wr):=hS;have HC1:Hid (i=a\/lt d[m]! d[i-1]! = ZD):=Kc;have HC2:Hid (j=m\/lt d[m]! d[j]! = ZC):=Of;clear hS hB Kc Of
  by_cases bO:i<j
  ·have hl:=xI d wr HS.out hd m ((i+j) / 2) YG YG
   rw[show(((i+j) / 2:Nat):Int)=((i:Int)+(j:Int)) / 2 by omega]at hl
   clear xI
   cases vE:lt d[m]! d[(i+j) / 2]! with
   |true=>
    rw[vE]at hl
    go_wp2_with (go_at_fn f;refine hl.mono ?_;rintro e w' ⟨rfl,hS,c0',c1',_⟩)
    refine⟨?_,by simp[intOf];omega⟩
    exact⟨i,(i+j) / 2,rfl,by go_num,YG,YG,YG,HC1.out,.inr vE,hS⟩
   |false=>
    rw[vE]at hl
    go_wp2_with (go_at_fn f;refine hl.mono ?_;rintro e w' ⟨rfl,hS,c0',c1',_⟩)
    refine⟨?_,by simp[intOf];omega⟩
    exact⟨(i+j) / 2+1,j,by go_num,rfl,YG,YG,YG,.inr (by rw[Xp];exact vE),HC2.out,hS⟩
  ·have ZkF:i=j:=YG
   subst ZkF
   go_wp2
   go_loopw [15] (λvq wr2=>∃q:Nat,vq=ZF ZG ((m:Int)-(q:Int))/\q+i<=m/\SU enc k g T cs (W.alloc (vz f lb sf sb)) (shD d m q) wr2) (λvq _=>(intOf vq).toNat)
   case atStart=>exact⟨0,by go_num,YG,HS.out⟩
   case round=>
    obtain⟨q,rfl,hq,Mw⟩:=hrel;have c0:wr.cell? ⟨W.heap.size,0,ZB⟩=ZA (.func (.func f) #[] lb):=by rw[Mw.tq YJ YG];simp
    have c1:wr.cell? ⟨W.heap.size,1,ZB⟩=ZA (.func (.func sf) #[] sb):=by rw[Mw.tq YJ YG];simp
    have R6:Hid (SU enc k g T cs (W.alloc (vz f lb sf sb)) (shD d m q) wr):=Mw;clear Mw
    by_cases hqi:q+i<m
    ·have hs:=ri wr (shD d m q) R6.out.hold (by rw[we];exact hd) (m-q) (m-q-1) YG YG
     rw[VY,VY,show((m-q-1:Nat):Int)=(m:Int)-(q:Int)-1 by omega,show((m-q:Nat):Int)=(m:Int)-(q:Int)by omega]at hs
     have ZkH:(i:Int)<(m:Int)-(q:Int):=YG
     go_wp2
     exact⟨⟨q+1,by congr 1;omega,YG,R6.out.swap hk Zy Zy⟩,by simp[intOf];omega⟩
    ·have Zpo:¬(i:Int)<(m:Int)-(q:Int):=YG
     go_wp2
     (try simp only[Exit.inBlock,Exit.then])
     refine bodyPost_ret (results_none rfl _ _ _) rfl ?_;obtain rfl:=H1.out;refine⟨rfl,shD d m q,HB.out.trans R6.out,Rk d q YG YG,?_⟩;exact ZbS hO HSs.out hi hj HC1.out HC2.out (λk=>by rw[show i=m-q by omega];exact Zav d q YG YG k)
end
section
variable {α:Type} [Inhabited α] {enc:α->List Value} {k:Nat} {g:Nat} {T:TypeId} {cs:Nat}
variable (hk:∀x,(enc x).length=k) (f:Nat) (lb:Array Value) (sf:Nat) (sb:Array Value) (n:Nat) (hn:n<1152921504606846976) (ri:SwapSwapsK prog sf sb enc k g 0 n)
include hk hn ri
theorem ZlK{lt:α->α->Bool}(hO:SWO lt)(eg:∀args w,(callFunc f args).run prog w=.ok (.enter f args) w):∀(N:Nat) (d:Array α) (W:World),d.size=n->SU enc k g T cs W d W->wL f lb enc k lt g T cs n W->∀(a m b:Nat),b-a<=N->a<m->m<b->b<=n->SortedIn lt a m d->SortedIn lt m b d->
 Calls prog 340 #[LS f lb sf sb,ZF ZG a,ZF ZG m,ZF ZG b] W λe w'=>e=.returned (.tuple #[])/\∃e,SU enc k g T cs W e w'/\PermIn a b d e/\SortedIn lt a b e:=by
 intro N
 induction N with
 |zero=>intro d W hd h0 hL a m b hN h1 h2;omega
 |succ N ih=>
 intro d W hd h0 hL a m b hN h1 h2 hb MR GX
 by_cases hma:m=a+1
 ·exact ZlI hk f lb sf sb n hn ri hO eg hd h0 hL a m b hma h2 hb GX
 by_cases hmb:b=m+1
 ·exact ZlJ hk f lb sf sb n hn ri hO eg hd h0 hL a m b hmb YG hb MR
 have hB:SU enc k g T cs W d (W.alloc (vz f lb sf sb)):=h0.more (Up.al _ (Up.rfl' W));have xI:=λdj wr hS yL i j hi hj=>GZ (dj:=dj) (wr:=wr) f lb sf sb n hL h0 hS yL ri i j hi hj
 have HL:Hid (∀d' W',SU enc k g T cs (W.alloc (vz f lb sf sb)) d' W'->wL f lb enc k lt g T cs n W'):=λd' W' h'=>hL.on (hB.trans h')
 have HB:Hid (SU enc k g T cs W d (W.alloc (vz f lb sf sb))):=hB;have HS1:Hid (SortedIn lt a m d):=MR;have R6:Hid (SortedIn lt m b d):=GX;have Znp:=fun(d':Array α) (W':World) (yL:d'.size=n) (h':SU enc k g T cs W' d' W') (a m b:Nat) (h1:a<=m) (h2:m<=b) (h3:b<=n) (h4:a<m/\m<b)=>Zgb hk f lb sf sb n hn ri (T:=T) (cs:=cs) yL h' a m b h1 h2 h3 h4
 have HR:Hid _:=Znp;have HI:Hid _:=ih;have HLS:Hid _:=xI;have hg:=h0.lt;clear h0 hL MR GX Znp ih xI;have hna:((m:Int)-(a:Int)==1)=false:=by simp;omega
 have hnb:((b:Int)-(m:Int)==1)=false:=by simp;omega
 have ZkJ:((a:Int)+(b:Int)) / 2=(((a+b) / 2:Nat):Int):=YG;obtain⟨mid,hmd⟩:∃mid,mid=(a+b) / 2:=⟨_,rfl⟩;rw[<-hmd]at ZkJ
 have Sc:2*mid<=a+b:=YG;have Ft:a+b<=2*mid+1:=YG;clear hmd hma hmb
 go_enter func340,ntmps340
 go_upto_if 106 with(fail)
 go_cut [18,19] (λs18 s19 wx=>∃s0 r0:Nat,s18=ZF ZG s0/\s19=ZF ZG r0/\a<=s0/\s0<=r0/\r0<=m/\r0<=mid/\((m<=mid/\s0=a/\r0=m)\/(mid<m/\s0+b=mid+m/\r0=mid))/\wx=W.alloc (vz f lb sf sb))
 case first=>
  by_cases hmm:mid<m
  ·have Zps:(mid:Int)<(m:Int):=YG
   go_wp2
   go_meet
   exact⟨mid+m-b,mid,by go_num,rfl,YG,YG,YG,YG,.inr ⟨hmm,YG,rfl⟩,rfl⟩
  ·have Zps:¬(mid:Int)<(m:Int):=YG
   go_wp2
   go_meet
   exact⟨a,m,rfl,rfl,YG,YG,YG,YG,.inl ⟨YG,rfl,rfl⟩,rfl⟩
 case rest=>
  obtain⟨s0,r0,rfl,rfl,ha0,hsr,hrm,hrd,hs0,rfl⟩:=hcut;clear hna hnb ZkJ hB;have GI:Hid ((m<=mid/\s0=a/\r0=m)\/(mid<m/\s0+b=mid+m/\r0=mid)):=hs0;clear hs0
  go_wp2
  go_loopw [18,19] (λvs vr wr=>∃(s r:Nat),vs=ZF ZG s/\vr=ZF ZG r/\s0<=s/\s<=r/\r<=r0/\(s=s0\/lt d[mid+m-s]! d[s-1]! = ZD)/\(r=r0\/lt d[mid+m-1-r]! d[r]! = ZC)/\SU enc k g T cs (W.alloc (vz f lb sf sb)) d wr) (λvs vr _=>(intOf vr).toNat-(intOf vs).toNat)
  case atStart=>exact⟨s0,r0,rfl,rfl,YG,YG,YG,.inl rfl,.inl rfl,HB.out.self⟩
  case round=>
   obtain⟨s,r,rfl,rfl,hs,Zry,hr,Kc,Of,hS⟩:=hrel;have c0:wr.cell? ⟨W.heap.size,0,ZB⟩=ZA (.func (.func f) #[] lb):=by rw[hS.tq YJ YG];simp
   have c1:wr.cell? ⟨W.heap.size,1,ZB⟩=ZA (.func (.func sf) #[] sb):=by rw[hS.tq YJ YG];simp
   have HS:Hid (SU enc k g T cs (W.alloc (vz f lb sf sb)) d wr):=hS;have HC1:Hid (s=s0\/lt d[mid+m-s]! d[s-1]! = ZD):=Kc;have HC2:Hid (r=r0\/lt d[mid+m-1-r]! d[r]! = ZC):=Of;clear hS Kc Of
   by_cases bO:s<r
   ·have hq:mid+m-1-(s+r) / 2<n:=by rcases GI.out with h|h<;>omega
    have hl:=HLS.out d wr HS.out hd (mid+m-1-(s+r) / 2) ((s+r) / 2) hq YG;rw[show((mid+m-1-(s+r) / 2:Nat):Int)=(mid:Int)+(m:Int)-1-((s:Int)+(r:Int)) / 2 by omega,show(((s+r) / 2:Nat):Int)=((s:Int)+(r:Int)) / 2 by omega]at hl
    cases vE:lt d[mid+m-1-(s+r) / 2]! d[(s+r) / 2]! with
    |true=>
     rw[vE]at hl
     go_wp2_with (go_at_fn f;refine hl.mono ?_;rintro e w' ⟨rfl,hS,c0',c1',_⟩)
     refine⟨?_,by simp[intOf];omega⟩
     exact⟨s,(s+r) / 2,rfl,by go_num,YG,YG,YG,HC1.out,.inr vE,hS⟩
    |false=>
     rw[vE]at hl
     go_wp2_with (go_at_fn f;refine hl.mono ?_;rintro e w' ⟨rfl,hS,c0',c1',_⟩)
     refine⟨?_,by simp[intOf];omega⟩
     exact⟨(s+r) / 2+1,r,by go_num,rfl,YG,YG,YG,.inr (by rw[Xp,show mid+m-((s+r) / 2+1)=mid+m-1-(s+r) / 2 by omega];exact vE),HC2.out,hS⟩
   ·have Zpx:s=r:=YG
    subst Zpx;have Ev:¬s<s:=YG;obtain⟨t,ht⟩:∃t,t=mid+m-s:=⟨_,rfl⟩;have htz:(mid:Int)+(m:Int)-(s:Int)=(t:Int):=YG;have hms:m<=t:=YG;have xu:s+(t-m)=mid:=YG;have yU:t<=b:=by rcases GI.out with h|h<;>omega
    have HT:Hid (t=mid+m-s):=ht;clear ht;have dz:∀x y:Nat,ZE ((x:Int)<(y:Int))=ZE (x<y):=λx y=>by by_cases h:x<y<;>simp[h]
    have DZ:Hid _:=dz;clear dz;clear Ev;have Zol:Hid (a<s->t<b->lt d[t]! d[s-1]! = ZD):=λh1 h2=>by
     rcases HC1.out with h|h
     ·rcases GI.out with h3|h3<;>omega
     ·rw[HT.out];exact h
    have Zom:Hid (s<m->m<t->lt d[t-1]! d[s]! = ZC):=λh1 h2=>by
     rcases HC2.out with h|h
     ·rcases GI.out with h3|h3<;>omega
     ·rw[show t-1=mid+m-1-s by rw[HT.out];omega];exact h
    go_upto_region 40 with(fail)
    go_cut [145] (λZqb wx=>Zqb=.bool (ZE (s<m/\m<t))/\wx=wr)
    case first=>
     by_cases q1:s<m
     ·by_cases q2:m<t
      ·have q3:ZE (s<m/\m<t)=true:=Yp ⟨q1,q2⟩
       go_wp2
       go_meet
       exact⟨by rw[q3],rfl⟩
      ·have q3:ZE (s<m/\m<t)=false:=Yz λh=>q2 h.2
       go_wp2
       go_meet
       exact⟨by rw[q3],rfl⟩
     ·have q3:ZE (s<m/\m<t)=false:=Yz λh=>q1 h.1
      go_wp2
      go_meet
      exact⟨by rw[q3],rfl⟩
    case rest=>
    obtain⟨rfl,rfl⟩:=hcut
    go_upto_if 145 with(fail)
    go_cut [] (λwx=>∃e,SU enc k g T cs (W.alloc (vz f lb sf sb)) e wx/\PermIn a b d e/\∀k,e[k]! = qS d s m t k)
    case first=>
     by_cases q:s<m/\m<t
     ·have q3:ZE (s<m/\m<t)=true:=Yp q
      have hc:=HR.out d wc hd HS.out.self s m t YG YG YG q
      go_wp2_with (go_at_call 366;refine hc.mono ?_;rintro e w' ⟨rfl,hE⟩)
      go_meet
      obtain⟨e,Sa,Od,Vh⟩:=hE;exact⟨e,HS.out.trans Sa,permIn_mono _ _ _ _ _ _ YG YG YG Od,Vh⟩
     ·have q3:ZE (s<m/\m<t)=false:=Yz q
      go_wp2
      go_meet
      exact⟨d,HS.out,permIn_refl _ _ _,λk=>EW d YG YG YG k⟩
    case rest=>
    obtain⟨e,Sa,Od,Vh⟩:=hcut;obtain⟨g1,g2,g3,g4,g5⟩:=Zkx hO HS1.out R6.out ⟨YG,YG⟩ ⟨hms,yU⟩ xu Zol.out Zom.out Vh;have G1:Hid (SortedIn lt a s e):=g1;have G2:Hid (SortedIn lt s mid e):=g2;have G3:Hid (SortedIn lt mid t e):=g3;have G4:Hid (SortedIn lt t b e):=g4;have G5:Hid (∀i j,a<=i->i<mid->mid<=j->j<b->lt e[j]! e[i]! = ZD):=g5;have hed:e.size=n:=Od.1.trans hd;have c0:wc.cell? ⟨W.heap.size,0,ZB⟩=ZA (.func (.func f) #[] lb):=by rw[Sa.tq YJ YG];simp
    have c1:wc.cell? ⟨W.heap.size,1,ZB⟩=ZA (.func (.func sf) #[] sb):=by rw[Sa.tq YJ YG];simp
    have HE1:Hid (SU enc k g T cs (W.alloc (vz f lb sf sb)) e wc):=Sa;have HE2:Hid (PermIn a b d e):=Od;clear g1 g2 g3 g4 g5 Sa Od Vh
    go_upto_region 42 with(fail)
    go_cut [158] (λZqc wx=>Zqc=.bool (ZE (a<s/\s<mid))/\wx=wc)
    case first=>
     by_cases q1:a<s
     ·by_cases q2:s<mid
      ·have q3:ZE (a<s/\s<mid)=true:=Yp ⟨q1,q2⟩
       go_wp2
       go_meet
       exact⟨by rw[q3],rfl⟩
      ·have q3:ZE (a<s/\s<mid)=false:=Yz λh=>q2 h.2
       go_wp2
       go_meet
       exact⟨by rw[q3],rfl⟩
     ·have q3:ZE (a<s/\s<mid)=false:=Yz λh=>q1 h.1
      go_wp2
      go_meet
      exact⟨by rw[q3],rfl⟩
    case rest=>
    obtain⟨rfl,rfl⟩:=hcut
    go_upto_if 158 with(fail)
    go_cut [] (λwx=>∃e1,SU enc k g T cs (W.alloc (vz f lb sf sb)) e1 wx/\PermIn a mid e e1/\SortedIn lt a mid e1)
    case first=>
     by_cases q:a<s/\s<mid
     ·have q3:ZE (a<s/\s<mid)=true:=Yp q
      have hc:=HI.out e _ hed HE1.out.self (HL.out e _ HE1.out) a s mid YG q.1 q.2 YG G1.out G2.out
      go_wp2_with (go_at_call 340;refine hc.mono ?_;rintro e' w' ⟨rfl,hE⟩)
      go_meet
      obtain⟨e1,Sa,Od,Vh⟩:=hE;exact⟨e1,HE1.out.trans Sa,Od,Vh⟩
     ·have q3:ZE (a<s/\s<mid)=false:=Yz q
      go_wp2
      go_meet
      refine⟨e,HE1.out,permIn_refl _ _ _,?_⟩
      by_cases q4:a<s
      ·exact AK G1.out (VJ _) YG
      ·exact AK G2.out YG (VJ _)
    case rest=>
    obtain⟨e1,hF1,hF2,hF3⟩:=hcut;have Zpm:e1.size=n:=hF2.1.trans hed;have g3:SortedIn lt mid t e1:=Cj G3.out λk h1 h2=>hF2.2.1 k (.inr h1)
    have g4:SortedIn lt t b e1:=Cj G4.out λk h1 h2=>hF2.2.1 k (.inr YG)
    have c0':wc.cell? ⟨W.heap.size,0,ZB⟩=ZA (.func (.func f) #[] lb):=by rw[hF1.tq YJ YG];simp
    have c1':wc.cell? ⟨W.heap.size,1,ZB⟩=ZA (.func (.func sf) #[] sb):=by rw[hF1.tq YJ YG];simp
    have K3:Hid (SortedIn lt mid t e1):=g3;have K4:Hid (SortedIn lt t b e1):=g4;have HF1:Hid (SU enc k g T cs (W.alloc (vz f lb sf sb)) e1 wc):=hF1;have HF2:Hid (PermIn a mid e e1):=hF2;have HF3:Hid (SortedIn lt a mid e1):=hF3;clear g3 g4 hF1 hF2 hF3;have fin:∀w' e2,SU enc k g T cs (W.alloc (vz f lb sf sb)) e2 w'->PermIn mid b e1 e2->SortedIn lt mid b e2->∃e,SU enc k g T cs W e w'/\PermIn a b d e/\SortedIn lt a b e:=λw' e2 h1 h2 h3=>by
     obtain⟨x1,x2⟩:=glue hO YG YG YG HF2.out h2 HF3.out h3 G5.out;exact⟨e2,HB.out.trans h1,permIn_trans _ _ _ _ _ HE2.out x1,x2⟩
    have FIN:Hid _:=fin;clear fin
    go_upto_region 44 with(fail)
    go_cut [171] (λZqd wx=>Zqd=.bool (ZE (mid<t/\t<b))/\wx=wc)
    case first=>
     by_cases q1:mid<t
     ·by_cases q2:t<b
      ·have q3:ZE (mid<t/\t<b)=true:=Yp ⟨q1,q2⟩
       go_wp2
       go_meet
       exact⟨by rw[q3],rfl⟩
      ·have q3:ZE (mid<t/\t<b)=false:=Yz λh=>q2 h.2
       go_wp2
       go_meet
       exact⟨by rw[q3],rfl⟩
     ·have q3:ZE (mid<t/\t<b)=false:=Yz λh=>q1 h.1
      go_wp2
      go_meet
      exact⟨by rw[q3],rfl⟩
    case rest=>
    obtain⟨rfl,rfl⟩:=hcut
    by_cases q:mid<t/\t<b
    ·have q3:ZE (mid<t/\t<b)=true:=Yp q
     have hc:=HI.out e1 _ Zpm HF1.out.self (HL.out e1 _ HF1.out) mid t b YG q.1 q.2 hb K3.out K4.out
     go_wp2_with (go_at_call 340;refine hc.mono ?_;rintro e' w' ⟨rfl,hE⟩)
     go_end0
     obtain⟨e2,Sa,Od,Vh⟩:=hE;exact⟨rfl,FIN.out _ e2 (HF1.out.trans Sa) Od Vh⟩
    ·have q3:ZE (mid<t/\t<b)=false:=Yz q
     go_wp2
     go_end0
     refine⟨rfl,FIN.out _ e1 HF1.out (permIn_refl _ _ _) ?_⟩
     by_cases q4:mid<t
     ·exact AK K3.out (VJ _) YG
     ·exact AK K4.out YG (VJ _)
end
end Go.Proofs.YtbalgkakkoocjaaGreat
