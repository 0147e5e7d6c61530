/- A part of the proof of the statement in the last file of this claim: texts on the language of the program and on its functions. No condition. -/
import Derived.Test.YtdilaemengjipaaGreatDoorCJ4
import Derived.Test.YtdilaemengjipaaGreatDoorCJ1
import Derived.Sort.LotA
import Derived.Test.YtdilaemengjipaaGreatDoorProg
import Derived.Shelf.SlSortFuncK.RowK2
import Derived.Shelf.GgSortFunc.SmallK
import Derived.Deep.DeepCutAuto
import Derived.Laws.BytesArg
import Derived.Lib.ItoaLen
import Derived.Shelf.Strings.Builder1
import Derived.Sort.Grow
set_option linter.unusedVariables false
set_option linter.unusedSimpArgs false
set_option linter.unusedSectionVars false
open Go.Value renaming int->Y1
open Go.IntKind renaming i64->Y2
open Go renaming undef->Y3
open Option renaming some->YW,none->YX
open Bool renaming true->YY,false->YZ
open Decidable renaming decide->Y0
open Go.Proofs.Tryz
set_option maxHeartbeats 40000000
open Nat renaming lt_or_ge->Wv,le_refl->VY,lt_trichotomy->WL,lt_of_lt_of_le->WJ,zero_add->Wc
open UInt8 renaming ofNat->WC
open _root_.ByteArray renaming ext->WX,data_append->XW,size->W7
open _root_.Array renaming getElem?_eq_none->Xu,getElem?_eq_some_iff->We
open Option.some renaming inj->VX
namespace Go.Proofs.YtdilaemengjipaaGreatDoor
set_option maxRecDepth 10000
open Go.RowKit
def dR(l:List aq)(t:av)(s0:Int×Int):Option ((Int×Int)⊕Int):=
 cond (Y0 (s0.2<(l.length:Int)))
 ((aB l s0.2).bind λy1=>
 cond (Y0 (y1.bk=t))
 ((aB l s0.2).bind λy2=>
 YW (.inl ((aM (s0.1+y2.ab)),(aM (s0.2+1)))))
 (YW (.inl (s0.1,(aM (s0.2+1))))))
 (YW (.inr s0.1))
instance (l:List aq)(t:av):bp (dR l t):=⟨λs0=>(.sl (l.map aC)::.un::.un::.be 0 0 0::.un::vi s0.1::vi s0.2::(U 21 [])),λs0=>[YW ⟨.of 46,2,[[vi t.bH,vi t.day]]⟩]⟩
def dO(l:List aq)(t:av):Option Int:=
 (aE (dR l t) NN (0,0)).bind (λo0=>
 YW o0)
instance (l:List aq)(t:av):CT prog (dO l t):=⟨279,[.sl (l.map aC),.ag (aU t)],[],λr=>vi r,λr=>[],cw (dO.eq_1 ..) func279 ntmps279 results279⟩
def jw(w:ax)(id:Int)(t:av)(s0:Int):Option (Int⊕(Unit⊕Bool)):=
 cond (Y0 (s0<(w.au.length:Int)))
 ((aB w.au s0).bind λy1=>
 cond (Y0 (y1.bz=id))
 (cond (Y0 (y1.bk=t))
 ((aB w.aj (aM (id-1))).bind λy2=>
 YW (.inr (.inr (Y0 (y1.ab=y2.ab)))))
 (YW (.inl (aM (s0+1)))))
 (YW (.inl (aM (s0+1)))))
 (YW (.inr (.inl ())))
instance (w:ax)(id:Int)(t:av):bp (jw w id t):=⟨λs0=>(.un::vi id::.un::.be 0 0 0::.un::.be 1 0 0::(U 4 (.sl (w.au.map aC)::vi (w.au.length:Int)::vi s0::(U 24 [])))),λs0=>[YW ⟨.of 33,10,[[.sl (w.aa.aA.map bo),.sl (w.aa.off.map aG),vi w.aa.change,.sl (w.aj.map aZ),.sl (w.au.map aC),.sl (w.ae.map aU),vi w.now,.sl (w.aN.map bw),.sl (w.skip.map aG),vi w.bg]]⟩,YW ⟨.of 46,2,[[vi t.bH,vi t.day]]⟩]⟩
def lT(w:ax)(id:Int)(t:av):Option Bool:=
 (aE (jw w id t) NN 0).bind (bh (λo0=>
 YW YZ) (λr=>YW r))
instance (w:ax)(id:Int)(t:av):CT prog (lT w id t):=⟨157,[.ag (gK w),vi id,.ag (aU t)],[],λr=>vb r,λr=>[],cw (lT.eq_1 ..) func157 ntmps157 results157⟩
end Go.Proofs.YtdilaemengjipaaGreatDoor
namespace Go.Proofs.YtdilaemengjipaaGreatDoor
set_option maxRecDepth 10000
open Go.Sort
variable {a b i j m:Nat}
section
variable {α:Type} [Inhabited α]
def vX(d:Array α)(a b:Nat):Nat->Array α
 |0=>d
 |n+1=>swp (vX d a b n) (a+n) (b+n)
theorem pd(d:Array α)(a b:Nat):∀n,(vX d a b n).size=d.size
 |0=>rfl
 |n+1=>by rw[vX,size_swp,pd d a b n]
theorem wI(d:Array α){a b lo hi:Nat}(h1:lo<=a):∀n,a+n<=hi->lo<=b->b+n<=hi->hi<=d.size->PermIn lo hi d (vX d a b n)
 |0,_,_,_,_=>permIn_refl _ _ _
 |n+1,h2,h3,h4,h5=>permIn_trans _ _ _ _ _ (wI d h1 n Yn h3 Yn h5) (swp_permIn _ _ _ _ _ Yn Yn Yn Yn YR)
theorem yX(d:Array α){a b:Nat}:∀n,a+n<=b->b+n<=d.size->∀k,(vX d a b n)[k]! = if a<=k/\k<a+n then d[b+(k-a)]! else if b<=k/\k<b+n then d[a+(k-b)]! else d[k]!
 |0,_,_,k=>by rw[if_neg Yn,if_neg Yn];rfl
 |n+1,h1,h2,k=>by
  have ih:=yX d (a:=a) (b:=b) n Yn Yn;rw[vX,swp_get (vX d a b n) (i:=a+n) (j:=b+n) YR YR]
  grind
def px(d:Array α)(a m b k:Nat):α:=if a<=k/\k<a+(b-m)then d[m+(k-a)]! else if a+(b-m)<=k/\k<b then d[k-(b-m)]! else d[k]!
theorem Zbi(e:Array α)(h:j<i)(hi:i<=m)(hs:m+j<=e.size)(k:Nat):px (vX e (m-i) m j) (m-i+j) m (m+j) k=px e (m-i) m (m+j) k:=by
 unfold px;simp only[yX e (a:=m-i) (b:=m) j Yn Yn]
 grind
theorem Zbj(e:Array α)(h:i<j)(hi:i<=m)(hs:m+j<=e.size)(k:Nat):px (vX e (m-i) (m+j-i) i) (m-i) m (m+j-i) k=px e (m-i) m (m+j) k:=by
 unfold px;simp only[yX e (a:=m-i) (b:=m+j-i) i Yn Yn]
 grind
theorem Zbh(e:Array α)(hi:i<=m)(hs:m+i<=e.size)(k:Nat):(vX e (m-i) m i)[k]! = px e (m-i) m (m+i) k:=by
 unfold px;rw[yX e i Yn Yn]
 grind
theorem Ai(d:Array α)(h:m<=a\/b<=m)(CK:a<=m)(hb:m<=b)(k:Nat):d[k]! = px d a m b k:=by
 unfold px
 grind
def Ul(d:Array α)(a:Nat):Nat->Array α
 |0=>d
 |n+1=>swp (Ul d a n) (a+n) (a+n+1)
theorem sO(d:Array α)(a:Nat):∀n,(Ul d a n).size=d.size
 |0=>rfl
 |n+1=>by rw[Ul,size_swp,sO d a n]
theorem Km(d:Array α){a hi:Nat}:∀n,a+n<hi->hi<=d.size->PermIn a hi d (Ul d a n)
 |0,_,_=>permIn_refl _ _ _
 |n+1,h2,h5=>permIn_trans _ _ _ _ _ (Km d n Yn h5) (swp_permIn _ _ _ _ _ Yn Yn Yn Yn YS)
theorem N8(d:Array α){a:Nat}:∀n,a+n<d.size->∀k,(Ul d a n)[k]! = px d a (a+1) (a+1+n) k
 |0,h,k=>Ai d (.inr Yn) Yn Yn k
 |n+1,h,k=>by
  have ih:=N8 d (a:=a) n Yn;rw[Ul,swp_get (Ul d a n) (i:=a+n) (j:=a+n+1) YS YS,ih,ih,ih];unfold px
  grind
def Uk(d:Array α)(m:Nat):Nat->Array α
 |0=>d
 |n+1=>swp (Uk d m n) (m-n) (m-n-1)
theorem sN(d:Array α)(m:Nat):∀n,(Uk d m n).size=d.size
 |0=>rfl
 |n+1=>by rw[Uk,size_swp,sN d m n]
theorem Kl(d:Array α){m lo:Nat}:∀n,lo+n<=m->m<d.size->PermIn lo (m+1) d (Uk d m n)
 |0,_,_=>permIn_refl _ _ _
 |n+1,h2,h5=>permIn_trans _ _ _ _ _ (Kl d n Yn h5) (swp_permIn _ _ _ _ _ Yn Yn Yn Yn YT)
theorem N7(d:Array α){m:Nat}:∀n,n<=m->m<d.size->∀k,(Uk d m n)[k]! = px d (m-n) m (m+1) k
 |0,h,h',k=>Ai d (.inl Yn) Yn Yn k
 |n+1,h,h',k=>by
  have ih:=N7 d (m:=m) n Yn h';rw[Uk,swp_get (Uk d m n) (i:=m-n) (j:=m-n-1) YT YT,ih,ih,ih];unfold px
  grind
variable {lt:α->α->Bool}
theorem tA(hO:SWO lt){d:Array α}(h:SortedIn lt a b d)(h1:a<=i)(h2:i<=j)(h3:j<b):lt d[j]! d[i]! = false:=by
 rcases Wv i j with h4|h4
 ·exact h i j h1 h4 h3
 ·have:i=j:=Yn
  subst this;exact hO.irrefl _
theorem wH{a b a' b':Nat}{d:Array α}(h:SortedIn lt a b d)(h1:a<=a')(h2:b'<=b):SortedIn lt a' b' d:=λi j hi zf hj=>h i j Yn zf Yn
theorem xH{d e:Array α}(h:SortedIn lt a b d)(he:∀k,a<=k->k<b->e[k]! = d[k]!):SortedIn lt a b e:=λi j hi zf hj=>by
 rw[he i hi Yn,he j Yn hj];exact h i j hi zf hj
theorem N9{d:Array α}(h:b<=a+1):SortedIn lt a b d:=λi j hi zf hj=>Yn
theorem Zc3(hO:SWO lt){a m b s t mid:Nat}{d e:Array α}(h1:SortedIn lt a m d)(h2:SortedIn lt m b d)(hs:a<=s/\s<=m)(ht:m<=t/\t<=b)(Zdb:s+(t-m)=mid)
 (c1:a<s->t<b->lt d[t]! d[s-1]! = YZ) (c2:s<m->m<t->lt d[t-1]! d[s]! = YY) (hr:∀k,e[k]! = px d s m t k):
 SortedIn lt a s e/\SortedIn lt s mid e/\SortedIn lt mid t e/\SortedIn lt t b e/\∀i j,a<=i->i<mid->mid<=j->j<b->lt e[j]! e[i]! = false:=by
 have g1:∀k,k<s->e[k]! = d[k]!:=λk h=>by rw[hr];unfold px;grind
 have g2:∀k,s<=k->k<mid->e[k]! = d[m+(k-s)]!:=λk h h'=>by rw[hr];unfold px;grind
 have g3:∀k,mid<=k->k<t->e[k]! = d[k-(t-m)]!:=λk h h'=>by rw[hr];unfold px;grind
 have g4:∀k,t<=k->e[k]! = d[k]!:=λk h=>by rw[hr];unfold px;rw[if_neg Yn,if_neg Yn]
 refine⟨λi j hi zf hj=>?_,λi j hi zf hj=>?_,λi j hi zf hj=>?_,λi j hi zf hj=>?_,λi j hi nj hj CM=>?_⟩
 ·rw[g1 i Yn,g1 j hj];exact h1 i j hi zf Yn
 ·rw[g2 i hi Yn,g2 j Yn hj];exact h2 _ _ Yn Yn Yn
 ·rw[g3 i hi Yn,g3 j Yn hj];exact h1 _ _ Yn Yn Yn
 ·rw[g4 i hi,g4 j Yn];exact h2 i j Yn zf hj
 ·rcases Wv i s with x|x<;>rcases Wv j t with y|y
  ·rw[g1 i x,g3 j hj y];exact h1 _ _ hi Yn Yn
  ·rw[g1 i x,g4 j y]
   have a1:=tA hO h2 (i:=t) (j:=j) ht.1 y CM;have a2:=c1 Yn Yn;have a3:=tA hO h1 (i:=i) (j:=s-1) hi Yn Yn;exact hO.ntrans _ _ _ (hO.ntrans _ _ _ a1 a2) a3
  ·rw[g2 i x nj,g3 j hj y]
   have a1:=tA hO h2 (i:=m+(i-s)) (j:=t-1) Yn Yn Yn;have a2:=c2 Yn Yn;have a3:=tA hO h1 (i:=s) (j:=j-(t-m)) hs.1 Yn Yn
   cases hv:lt d[j-(t-m)]! d[m+(i-s)]! with
   |false=>rfl
   |true=>
    cases hw:lt d[j-(t-m)]! d[t-1]! with
    |false=>rw[hO.ntrans _ _ _ hw a1]at hv;grind
    |true=>rw[hO.trans _ _ _ hw a2]at a3;omega
  ·rw[g2 i x nj,g4 j y];exact h2 _ _ Yn Yn CM
theorem glue(hO:SWO lt){a mid b:Nat}{e e1 e2:Array α}(hb:b<=e.size)(ha:a<=mid)(hm:mid<=b)(p1:PermIn a mid e e1)(p2:PermIn mid b e1 e2)(s1:SortedIn lt a mid e1)(s2:SortedIn lt mid b e2)
 (hc:∀i j,a<=i->i<mid->mid<=j->j<b->lt e[j]! e[i]! = YZ):PermIn a b e e2/\SortedIn lt a b e2:=by
 have z1:=p1.1;refine⟨permIn_trans _ _ _ _ _ (permIn_mono _ _ _ _ _ _ (VY _) hm hb p1) (permIn_mono _ _ _ _ _ _ ha (VY _) Yn p2),λi j hi zf hj=>?_⟩
 have k1:∀i j,a<=i->i<mid->mid<=j->j<b->lt e1[j]! e1[i]! = false:=λi j hi nj hj CM=>by
  rw[p1.2.1 j (.inr hj)];exact permIn_all e e1 a mid (λx=>lt e[j]! x=YZ) Yn p1 (λi h h'=>hc i j h h' hj CM) i hi nj
 have k2:∀i j,a<=i->i<mid->mid<=j->j<b->lt e2[j]! e2[i]! = false:=λi j hi nj hj CM=>by
  rw[p2.2.1 i (.inl nj)];exact permIn_all e1 e2 mid b (λy=>lt y e1[i]! = YZ) Yn p2 (λj h h'=>k1 i j hi nj h h') j hj CM
 rcases Wv i mid with x|x
 ·rcases Wv j mid with y|y
  ·rw[p2.2.1 i (.inl x),p2.2.1 j (.inl y)];exact s1 i j hi zf y
  grind
 ·exact s2 i j x zf hj
theorem SO(hO:SWO lt){d e:Array α}(h:SortedIn lt (a+1) b d)(h1:a+1<=i)(h2:i<=b)(c1:i=a+1\/lt d[i-1]! d[a]! = YY)(c2:i=b\/lt d[i]! d[a]! = YZ)(hr:∀k,e[k]! = px d a (a+1) i k):SortedIn lt a b e:=by
 have g1:∀k,a<=k->k<i-1->e[k]! = d[k+1]!:=λk h h'=>by rw[hr];unfold px;grind
 have g2:e[i-1]! = d[a]!:=by rw[hr];unfold px;grind
 have g3:∀k,i<=k->e[k]! = d[k]!:=λk h=>by rw[hr];unfold px;grind
 have lo:∀p,a<=p->p<i-1->lt d[a]! d[p+1]! = false:=λp h5 h6=>by
  rcases c1 with c1|c1
  ·omega
  ·exact hO.ntrans _ _ _ (hO.asymmA c1) (tA hO h (i:=p+1) (j:=i-1) Yn Yn Yn)
 have hi:∀q,i<=q->q<b->lt d[q]! d[a]! = false:=λq h5 h6=>by
  rcases c2 with c2|c2
  ·omega
  ·exact hO.ntrans _ _ _ (tA hO h (i:=i) (j:=q) h1 h5 h6) c2
 intro p q hp hpq hq
 rcases WL p (i-1)with x|x|x
 ·rcases WL q (i-1)with y|y|y
  ·rw[g1 p hp x,g1 q Yn y];exact h _ _ Yn Yn Yn
  ·grind
  ·rw[g1 p hp x,g3 q Yn];exact h _ _ Yn Yn hq
 ·grind
 ·rw[g3 p Yn,g3 q Yn];exact h _ _ Yn hpq hq
theorem Pt(hO:SWO lt){d e:Array α}(h:SortedIn lt a m d)(h1:a<=i)(h2:i<=m)(c1:i=a\/lt d[m]! d[i-1]! = YZ)(c2:i=m\/lt d[m]! d[i]! = YY)(hr:∀k,e[k]! = px d i m (m+1) k):SortedIn lt a (m+1) e:=by
 have g1:∀k,k<i->e[k]! = d[k]!:=λk h=>by rw[hr];unfold px;grind
 have g2:e[i]! = d[m]!:=by rw[hr];unfold px;simp
 have g3:∀k,i<k->k<=m->e[k]! = d[k-1]!:=λk h h'=>by rw[hr];unfold px;grind
 have lo:∀p,a<=p->p<i->lt d[m]! d[p]! = false:=λp h5 h6=>by
  rcases c1 with c1|c1
  ·omega
  ·exact hO.ntrans _ _ _ c1 (tA hO h (i:=p) (j:=i-1) h5 Yn Yn)
 have hi:∀q,i<q->q<=m->lt d[q-1]! d[m]! = false:=λq h5 h6=>by
  rcases c2 with c2|c2
  ·omega
  ·exact hO.ntrans _ _ _ (tA hO h (i:=i) (j:=q-1) h1 Yn Yn) (hO.asymmA c2)
 intro p q hp hpq hq
 rcases WL p i with x|x|x
 ·rcases WL q i with y|y|y
  ·rw[g1 p x,g1 q y];exact h _ _ hp hpq Yn
  ·grind
  ·rw[g1 p x,g3 q y Yn];exact tA hO h Yn Yn Yn
 ·grind
 ·rw[g3 p x Yn,g3 q Yn Yn];exact tA hO h Yn Yn Yn
def Rb(lt:α->α->Bool)(bs n:Nat)(d:Array α):Prop:=∀q,SortedIn lt (q*bs) (min (q*bs+bs) n) d
end
end Go.Proofs.YtdilaemengjipaaGreatDoor
namespace Go.Proofs.YtdilaemengjipaaGreatDoor
set_option maxRecDepth 10000
open Go.RowKit Go.Lib Go.Sort
set_option maxRecDepth 100000
variable {W w0:World}
section
variable {α:Type} [Inhabited α] {enc:α->List Value} {k:Nat} {g:Nat} {T:TypeId} {cs:Nat}
structure SU(enc:α->List Value)(k:Nat)(g:Nat)(T:TypeId)(cs:Nat)(w0:World)(d:Array α)(W:World):Prop where
 up:Et (λb=>b=g) w0 W
 hold:HoldsK enc k W g 0 d
 row:∃cells,W.heap[g]?=YW (.cells cells T (0,0))/\cells.size=cs
theorem SU.lt{d:Array α}(h:SU enc k g T cs w0 d W):g<W.heap.size:=by
 obtain⟨c,h1,_⟩:=h.row
 grind
theorem SU.more{w0 W W':World}{d:Array α}(h:SU enc k g T cs w0 d W)(u:Up W W'):SU enc k g T cs w0 d W':=by
 have hl:=h.lt;refine⟨⟨u.os.trans h.up.os,u.tape.trans h.up.tape,u.output.trans h.up.output,Nat.le_trans h.up.size u.size,λb hb hn=>(u.block b (WJ hb h.up.size)).trans (h.up.block b hb hn)⟩,λj hj=>⟨(u.cell (p:=⟨g,0+j,YX⟩) hl).trans (h.hold j hj).1,(u.frozen (p:=⟨g,0+j,YX⟩) hl).trans (h.hold j hj).2⟩,?_⟩
 obtain⟨c,h1,h2⟩:=h.row;exact⟨c,(u.block g hl).trans h1,h2⟩
theorem SU.trans{w0 W W':World}{d d':Array α}(h:SU enc k g T cs w0 d W)(h':SU enc k g T cs W d' W'):SU enc k g T cs w0 d' W':=⟨h.up.trans h'.up λ_ _ h=>h,h'.hold,h'.row⟩
theorem SU.self{d:Array α}(h:SU enc k g T cs w0 d W):SU enc k g T cs W d W:=⟨Et.refl _ _,h.hold,h.row⟩
theorem SU.AP{d:Array α}(h:SU enc k g T cs w0 d W){b o:Nat}(hb:b<w0.heap.size)(hn:b≠g):W.cell? ⟨b,o,YX⟩=w0.cell? ⟨b,o,YX⟩:=cell_of_heap (h.up.block b hb hn)
theorem SU.swap(hk:∀x,(enc x).length=k){d:Array α}(h:SU enc k g T cs w0 d W){i j:Nat}(hi:i<d.size)(hj:j<d.size):SU enc k g T cs w0 (swp d i j) ((W.setCells g (i*k) (enc d[j]!)).setCells g (j*k) (enc d[i]!)):=by
 have e:=putRowK_swp enc k hk W g 0 d i j hi hj;rw[putRowK_self enc k W g 0 d h.hold,Wc,Wc]at e
 rw[e];have hl:=h.lt;refine⟨h.up.trans (O':=λb=>b=g) ⟨rfl,rfl,rfl,by rw[size_putRowK];omega,λb hb hn=>?_⟩ λ_ _ h=>h,holdsK_putRowK enc k W g 0 d _ h.hold (size_swp _ _ _),?_⟩
 ·show(W.heap.modify g _)[b]?=_
  grind
 ·obtain⟨c,h1,h2⟩:=h.row
  refine⟨putCells id 0 (flatK enc k (swp d i j)) c,?_,?_⟩
  ·show(W.heap.modify g _)[g]?=_
   rw[Array.getElem?_modify,if_pos rfl,h1];rfl
  ·simp[putCells,h2]
def sW(f:Nat)(lb:Array Value)(enc:α->List Value)(k:Nat)(lt:α->α->Bool)(g:Nat)(T:TypeId)(cs n:Nat)(w0:World):Prop:=
 ∀(d:Array α) (W:World),SU enc k g T cs w0 d W->d.size=n->∀i j:Nat,i<n->j<n->Calls prog f (#[Y1 Y2 i,Y1 Y2 j]++lb) W λe w'=>e=.returned (.bool (lt d[i]! d[j]!))/\Up W w'
theorem sW.on{f:Nat}{lb:Array Value}{lt:α->α->Bool}{n:Nat}{d:Array α}(h:sW f lb enc k lt g T cs n w0)(hW:SU enc k g T cs w0 d W):sW f lb enc k lt g T cs n W:=λd' W' h'=>h d' W' (hW.trans h')
abbrev LS(f:Nat)(lb:Array Value)(sf:Nat)(sb:Array Value):Value:=.agg #[.func (.func f) #[] lb,.func (.func sf) #[] sb]
abbrev sh(f:Nat)(lb:Array Value)(sf:Nat)(sb:Array Value):Obj:=.cells #[.func (.func f) #[] lb,.func (.func sf) #[] sb] 272
variable (hk:∀x,(enc x).length=k) (f:Nat) (lb:Array Value) (sf:Nat) (sb:Array Value) (n:Nat) (hn:n<1152921504606846976) (pB:SwapSwapsK prog sf sb enc k g 0 n)
include hk hn pB
theorem ZbE{d:Array α}(hd:d.size=n)(h0:SU enc k g T cs W d W)(a b m:Nat)(h1:a+m<=b)(h2:b+m<=n):
 Calls prog 388 #[LS f lb sf sb,Y1 Y2 a,Y1 Y2 b,Y1 Y2 m] W λe w'=>e=.returned (.tuple #[])/\SU enc k g T cs W (vX d a b m) w':=by
 have hg:=h0.lt;have hB:SU enc k g T cs W d (W.alloc (sh f lb sf sb)):=h0.more (Up.al _ (Up.rfl' W))
 go_enter func388,ntmps388
 go_wp2
 go_loopw [8] (λvi wr=>∃i:Nat,vi=Y1 Y2 i/\i<=m/\SU enc k g T cs (W.alloc (sh f lb sf sb)) (vX d a b i) wr) (λvi _=>m-(intOf vi).toNat)
 case atStart=>exact⟨0,by rfl,Yn,hB.self⟩
 case round=>
  obtain⟨i,rfl,him,hS⟩:=hrel;have c1:wr.cell? ⟨W.heap.size,1,YX⟩=YW (.func (.func sf) #[] sb):=by rw[hS.AP Yq Yn];simp
  have HS:Hid (SU enc k g T cs (W.alloc (sh f lb sf sb)) (vX d a b i) wr):=hS;clear hS
  by_cases hi:i<m
  ·have hs:=pB wr (vX d a b i) HS.out.hold YR (a+i) (b+i) Yn Yn
   rw[show((a+i:Nat):Int)=(a:Int)+(i:Int)by omega,show((b+i:Nat):Int)=(b:Int)+(i:Int)by omega]at hs
   go_wp2
   exact⟨⟨i+1,by rfl,Yn,HS.out.swap hk YR YR⟩,by simp[intOf];omega⟩
  ·go_wp2
   go_end0
   have:i=m:=Yn;subst this;exact⟨rfl,hB.trans HS.out⟩
theorem T6{d:Array α}(hd:d.size=n)(h0:SU enc k g T cs W d W)(a m b:Nat)(h1:a<=m)(h2:m<=b)(h3:b<=n)(h4:a<m/\m<b):
 Calls prog 365 #[LS f lb sf sb,Y1 Y2 a,Y1 Y2 m,Y1 Y2 b] W λe w'=>e=.returned (.tuple #[])/\∃e,SU enc k g T cs W e w'/\PermIn a b d e/\∀k,e[k]! = px d a m b k:=by
 have hg:=h0.lt;have hB:SU enc k g T cs W d (W.alloc (sh f lb sf sb)):=h0.more (Up.al _ (Up.rfl' W));have UO:=fun(d':Array α) (W':World) (xg:d'.size=n) (h':SU enc k g T cs W' d' W') (a b m:Nat) (h1:a+m<=b) (h2:b+m<=n)=>ZbE hk f lb sf sb n hn pB (T:=T) (cs:=cs) xg h' a b m h1 h2
 go_enter func365,ntmps365
 go_wp2
 go_loopw [8,9] (λvi vj wr=>∃(i j:Nat) (e:Array α),vi=Y1 Y2 i/\vj=Y1 Y2 j/\0<i/\0<j/\i<=m-a/\j<=b-m/\e.size=n/\PermIn a b d e/\(∀k,px e (m-i) m (m+j) k=px d a m b k)/\SU enc k g T cs (W.alloc (sh f lb sf sb)) e wr) (λvi vj _=>(intOf vi).toNat+(intOf vj).toNat)
 case atStart=>exact⟨m-a,b-m,d,by go_num,by go_num,Yn,Yn,VY _,VY _,hd,permIn_refl _ _ _,λk=>by grind,hB.self⟩
 case round=>
  obtain⟨i,j,e,rfl,rfl,hi,hj,hia,hjb,he,hP,hR,hS⟩:=hrel;have c0:wr.cell? ⟨W.heap.size,0,YX⟩=YW (.func (.func f) #[] lb):=by rw[hS.AP Yq Yn];simp
  have c1:wr.cell? ⟨W.heap.size,1,YX⟩=YW (.func (.func sf) #[] sb):=by rw[hS.AP Yq Yn];simp
  have HS:Hid (SU enc k g T cs (W.alloc (sh f lb sf sb)) e wr):=hS;have HR:Hid (∀k,px e (m-i) m (m+j) k=px d a m b k):=hR;have HB:Hid (SU enc k g T cs W d (W.alloc (sh f lb sf sb))):=hB;clear hS hR hB h0
  by_cases zf:i=j
  ·subst zf
   have q:=UO e wr he HS.out.self (m-i) m i Yn Yn;rw[show((m-i:Nat):Int)=(m:Int)-(i:Int)by omega]at q
   go_wp2_with (go_at_call 388;refine q.mono ?_;rintro e w' ⟨rfl,hw⟩)
   go_end0
   exact⟨rfl,vX e (m-i) m i,(HB.out.trans HS.out).trans hw,permIn_trans _ _ _ _ _ hP (wI e Yn i Yn Yn Yn Yn),λk=>(Zbh e Yn Yn k).trans (HR.out k)⟩
  ·by_cases Ba:j<i
   ·have q:=UO e wr he HS.out.self (m-i) m j Yn Yn
    rw[show((m-i:Nat):Int)=(m:Int)-(i:Int)by omega]at q
    go_wp2_with (go_at_call 388;refine q.mono ?_;rintro e w' ⟨rfl,hw⟩)
    refine⟨⟨i-j,j,vX e (m-i) m j,by go_num,rfl,Yn,hj,Yn,hjb,by rw[pd];omega,permIn_trans _ _ _ _ _ hP (wI e Yn j Yn Yn Yn Yn),λk=>?_,HS.out.trans hw⟩,by simp[intOf];omega⟩
    rw[show m-(i-j)=m-i+j by omega]
    exact(Zbi e Ba Yn Yn k).trans (HR.out k)
   ·have q:=UO e wr he HS.out.self (m-i) (m+j-i) i Yn Yn
    rw[show((m-i:Nat):Int)=(m:Int)-(i:Int)by omega,show((m+j-i:Nat):Int)=(m:Int)+(j:Int)-(i:Int)by omega]at q
    go_wp2_with (go_at_call 388;refine q.mono ?_;rintro e w' ⟨rfl,hw⟩)
    refine⟨⟨i,j-i,vX e (m-i) (m+j-i) i,rfl,by go_num,hi,Yn,hia,Yn,by rw[pd];omega,permIn_trans _ _ _ _ _ hP (wI e Yn i Yn Yn Yn Yn),λk=>?_,HS.out.trans hw⟩,by simp[intOf];omega⟩
    rw[show m+(j-i)=m+j-i by omega]
    exact(Zbj e Yn Yn Yn k).trans (HR.out k)
omit hk hn pB in
theorem BG{lt:α->α->Bool}{d0:Array α}(hL:sW f lb enc k lt g T cs n W)(h0:SU enc k g T cs W d0 W){dj:Array α}{wr:World}(hS:SU enc k g T cs (W.alloc (sh f lb sf sb)) dj wr)(hd:dj.size=n)(UO:SwapSwapsK prog sf sb enc k g 0 n)(i j:Nat)(hi:i<n)(hj:j<n):
 Calls prog f (#[Y1 Y2 i,Y1 Y2 j]++lb) wr λe w'=>e=.returned (.bool (lt dj[i]! dj[j]!))/\SU enc k g T cs (W.alloc (sh f lb sf sb)) dj w'/\w'.cell? ⟨W.heap.size,0,YX⟩=YW (.func (.func f) #[] lb)/\w'.cell? ⟨W.heap.size,1,YX⟩=YW (.func (.func sf) #[] sb)/\
  (callFunc sf (#[Y1 Y2 i,Y1 Y2 j]++sb)).run prog w'=.ok (.value (.tuple #[])) ((w'.setCells g (i*k) (enc dj[j]!)).setCells g (j*k) (enc dj[i]!)):=by
 have hg:=h0.lt;refine(hL.on (h0.more (Up.al _ (Up.rfl' W))) dj wr hS hd i j hi hj).mono ?_;rintro e w' ⟨he,hu⟩;have hS':=hS.more hu;have hs:=UO w' dj hS'.hold hd i j hi hj;rw[Wc,Wc]at hs
 exact⟨he,hS',by rw[hS'.AP Yq Yn];simp,by rw[hS'.AP Yq Yn];simp,hs⟩
theorem Ps{lt:α->α->Bool}(eg:∀args w,(callFunc f args).run prog w=.ok (.enter f args) w){d:Array α}(hd:d.size=n)(h0:SU enc k g T cs W d W)(hL:sW f lb enc k lt g T cs n W)(a b:Nat)(CK:a<=b)(hb:b<=n):
 Calls prog 320 #[LS f lb sf sb,Y1 Y2 a,Y1 Y2 b] W λe w'=>e=.returned (.tuple #[])/\SU enc k g T cs W (Sort.insertionSort lt d a b) w':=by
 have hB:SU enc k g T cs W d (W.alloc (sh f lb sf sb)):=h0.more (Up.al _ (Up.rfl' W));have tQ:=λdj wr hS xg i j hi hj=>BG (dj:=dj) (wr:=wr) f lb sf sb n hL h0 hS xg pB i j hi hj
 have HB:Hid (SU enc k g T cs W d (W.alloc (sh f lb sf sb))):=hB;have hg:=h0.lt;clear h0 hL
 go_enter func320,ntmps320
 go_wp2
 go_loopw [6] (λvi wr=>∃(i:Nat) (dk:Array α),vi=Y1 Y2 i/\a<i/\i<=b+1/\dk.size=n/\SU enc k g T cs (W.alloc (sh f lb sf sb)) dk wr/\
  insOuter lt a b i dk=insOuter lt a b (a+1) d) (λvi _=>b+1-(intOf vi).toNat)
 case atStart=>exact⟨a+1,d,by go_num,Yn,Yn,hd,hB.self,rfl⟩
 case round=>
  obtain⟨i,dk,rfl,hai,hib,hsk,Hr,hO⟩:=hrel;have HO:Hid (insOuter lt a b i dk=insOuter lt a b (a+1) d):=hO;clear hO
  go_wp2
  ·go_loopw [7] (λvj wr2=>∃(j:Nat) (dj:Array α),vj=Y1 Y2 j/\a<=j/\j<=i/\dj.size=n/\SU enc k g T cs (W.alloc (sh f lb sf sb)) dj wr2/\
    insInner lt a j dj=insInner lt a i dk) (λvj _=>(intOf vj).toNat)
   case atStart=>exact⟨i,dk,rfl,Yn,VY _,hsk,Hr,rfl⟩
   case round=>
    obtain⟨j,dj,rfl,haj,Gc,hsj,Bd,hI⟩:=hrel;have bX:i<b:=by assumption
    have c0:wr.cell? ⟨W.heap.size,0,YX⟩=YW (.func (.func f) #[] lb):=by rw[Bd.AP Yq Yn];simp
    have c1:wr.cell? ⟨W.heap.size,1,YX⟩=YW (.func (.func sf) #[] sb):=by rw[Bd.AP Yq Yn];simp
    have HW:Hid (SU enc k g T cs (W.alloc (sh f lb sf sb)) dj wr):=Bd;have HI:Hid (insInner lt a j dj=insInner lt a i dk):=hI;clear Bd hI Hr hB;have out:(j<=a\/lt dj[j]! dj[j-1]! = YZ)->∀W',SU enc k g T cs (W.alloc (sh f lb sf sb)) dj W'->∃(i':Nat) (dk':Array α),Value.int .i64 ((i:Int)+1)=Y1 Y2 (i':Nat)/\a<i'/\i'<=b+1/\dk'.size=n/\
     SU enc k g T cs (W.alloc (sh f lb sf sb)) dk' W'/\insOuter lt a b i' dk'=insOuter lt a b (a+1) d:=λhs W' hW=>
     ⟨i+1,dj,by go_num,Yn,Yn,hsj,hW,
      by rw[<-HO.out,insOuter_go _ _ _ _ _ bX,<-HI.out,insInner_stop _ _ _ _ hs]⟩
    have OUT:Hid _:=out;clear out
    by_cases hja:a<j
    ·have hl:=tQ dj wr HW.out hsj j (j-1) Yn Yn
     rw[show(((j-1:Nat):Int))=(j:Int)-1 by omega]at hl
     clear tQ
     cases sR:lt dj[j]! dj[j-1]! with
     |true=>
      rw[sR]at hl
      go_wp2_with (go_at_fn f;refine hl.mono ?_;rintro e w' ⟨rfl,hS,c0',c1',hs⟩)
      refine⟨?_,by simp[intOf];omega⟩
      (repeat apply Exists.intro)
      refine⟨⟨j-1,swp dj j (j-1),by congr 1<;>omega,Yn,Yn,by rw[size_swp];exact hsj,hS.swap hk Yn Yn,?_⟩,by rw[Ya bX,show((j-1:Nat):Int)=(j:Int)-1 by omega]⟩
      rw[<-HI.out,insInner_go lt a j dj hja sR]
     |false=>
      rw[sR]at hl
      go_wp2_with (go_at_fn f;refine hl.mono ?_;rintro e w' ⟨rfl,hS,c0',c1',hs⟩)
      exact⟨OUT.out (.inr sR) _ hS,by simp[intOf];omega⟩
    ·go_wp2
     exact⟨OUT.out (.inl Yn) _ HW.out,by simp[intOf];omega⟩
  ·have ze:¬i<b:=by assumption
   go_end0
   exact⟨rfl,by unfold Sort.insertionSort;rw[<-HO.out,insOuter_stop _ _ _ _ _ ze];exact HB.out.trans Hr⟩
end
section
variable {α:Type} [Inhabited α] {enc:α->List Value} {k:Nat} {g:Nat} {T:TypeId} {cs:Nat}
variable (hk:∀x,(enc x).length=k) (f:Nat) (lb:Array Value) (sf:Nat) (sb:Array Value) (n:Nat) (hn:n<1152921504606846976) (pB:SwapSwapsK prog sf sb enc k g 0 n)
include hk hn pB
theorem ZdR{lt:α->α->Bool}(hO:SWO lt)(eg:∀args w,(callFunc f args).run prog w=.ok (.enter f args) w){d:Array α}(hd:d.size=n)(h0:SU enc k g T cs W d W)(hL:sW f lb enc k lt g T cs n W)(a m b:Nat)(h1:m=a+1)(h2:m<b)(hb:b<=n)(hs:SortedIn lt m b d):
 Calls prog 321 #[LS f lb sf sb,Y1 Y2 a,Y1 Y2 m,Y1 Y2 b] W λe w'=>e=.returned (.tuple #[])/\∃e,SU enc k g T cs W e w'/\PermIn a b d e/\SortedIn lt a b e:=by
 have hB:SU enc k g T cs W d (W.alloc (sh f lb sf sb)):=h0.more (Up.al _ (Up.rfl' W));have tQ:=λdj wr hS xg i j hi hj=>BG (dj:=dj) (wr:=wr) f lb sf sb n hL h0 hS xg pB i j hi hj
 have HB:Hid (SU enc k g T cs W d (W.alloc (sh f lb sf sb))):=hB;have HSs:Hid (SortedIn lt m b d):=hs;have hg:=h0.lt;clear h0 hL hs;have hma:(m:Int)-(a:Int)=1:=Yn;have H1:Hid (m=a+1):=h1;clear h1
 go_enter func321,ntmps321
 go_wp2
 go_loopw [8,9] (λvi vj wr=>∃(i j:Nat),vi=Y1 Y2 i/\vj=Y1 Y2 j/\m<=i/\i<=j/\j<=b/\(i=m\/lt d[i-1]! d[a]! = YY)/\(j=b\/lt d[j]! d[a]! = YZ)/\SU enc k g T cs (W.alloc (sh f lb sf sb)) d wr) (λvi vj _=>(intOf vj).toNat-(intOf vi).toNat)
 case atStart=>exact⟨m,b,rfl,rfl,Yn,Yn,Yn,.inl rfl,.inl rfl,hB.self⟩
 case round=>
  obtain⟨i,j,rfl,rfl,hi,zf,hj,CL,Hp,hS⟩:=hrel;have c0:wr.cell? ⟨W.heap.size,0,YX⟩=YW (.func (.func f) #[] lb):=by rw[hS.AP Yq Yn];simp
  have c1:wr.cell? ⟨W.heap.size,1,YX⟩=YW (.func (.func sf) #[] sb):=by rw[hS.AP Yq Yn];simp
  have HS:Hid (SU enc k g T cs (W.alloc (sh f lb sf sb)) d wr):=hS;have HC1:Hid (i=m\/lt d[i-1]! d[a]! = YY):=CL;have HC2:Hid (j=b\/lt d[j]! d[a]! = YZ):=Hp;clear hS hB CL Hp
  by_cases bX:i<j
  ·have hl:=tQ d wr HS.out hd ((i+j) / 2) a Yn Yn
   rw[show(((i+j) / 2:Nat):Int)=((i:Int)+(j:Int)) / 2 by omega]at hl
   clear tQ
   cases sR:lt d[(i+j) / 2]! d[a]! with
   |true=>
    rw[sR]at hl
    go_wp2_with (go_at_fn f;refine hl.mono ?_;rintro e w' ⟨rfl,hS,c0',c1',_⟩)
    refine⟨?_,by simp[intOf];omega⟩
    exact⟨(i+j) / 2+1,j,by rfl,rfl,Yn,Yn,Yn,.inr Yv,HC2.out,hS⟩
   |false=>
    rw[sR]at hl
    go_wp2_with (go_at_fn f;refine hl.mono ?_;rintro e w' ⟨rfl,hS,c0',c1',_⟩)
    refine⟨?_,by simp[intOf];omega⟩
    exact⟨i,(i+j) / 2,rfl,by rfl,Yn,Yn,Yn,HC1.out,.inr sR,hS⟩
  ·have Zc8:i=j:=Yn
   subst Zc8
   go_wp2
   go_loopw [11] (λvq wr2=>∃q:Nat,vq=Y1 Y2 ((a:Int)+(q:Int))/\a+q+1<=i/\SU enc k g T cs (W.alloc (sh f lb sf sb)) (Ul d a q) wr2) (λvq _=>i-(intOf vq).toNat)
   case atStart=>exact⟨0,by rfl,Yn,HS.out⟩
   case round=>
    obtain⟨q,rfl,hq,IQ⟩:=hrel;have c0:wr.cell? ⟨W.heap.size,0,YX⟩=YW (.func (.func f) #[] lb):=by rw[IQ.AP Yq Yn];simp
    have c1:wr.cell? ⟨W.heap.size,1,YX⟩=YW (.func (.func sf) #[] sb):=by rw[IQ.AP Yq Yn];simp
    have KM:Hid (SU enc k g T cs (W.alloc (sh f lb sf sb)) (Ul d a q) wr):=IQ;clear IQ
    by_cases hqi:a+q+1<i
    ·have hs:=pB wr (Ul d a q) KM.out.hold YS (a+q) (a+q+1) Yn Yn
     rw[Wc,Wc,show((a+q+1:Nat):Int)=(a:Int)+(q:Int)+1 by omega,show((a+q:Nat):Int)=(a:Int)+(q:Int)by omega]at hs
     have I1:(a:Int)+(q:Int)<(i:Int)-1:=Yn
     go_wp2
     exact⟨⟨q+1,by rfl,Yn,KM.out.swap hk YS YS⟩,by simp[intOf];omega⟩
    ·have Zhd:¬(a:Int)+(q:Int)<(i:Int)-1:=Yn
     go_wp2
     (try simp only[Exit.inBlock,Exit.then])
     refine bodyPost_ret (results_none rfl _ _ _) rfl ?_;refine⟨rfl,Ul d a q,HB.out.trans KM.out,Km d q Yn Yn,?_⟩;obtain rfl:=H1.out;exact SO hO HSs.out Yn hj HC1.out HC2.out (λk=>by rw[show i=a+1+q by omega];exact N8 d q Yn k)
theorem ZdS{lt:α->α->Bool}(hO:SWO lt)(eg:∀args w,(callFunc f args).run prog w=.ok (.enter f args) w){d:Array α}(hd:d.size=n)(h0:SU enc k g T cs W d W)(hL:sW f lb enc k lt g T cs n W)(a m b:Nat)(h1:b=m+1)(h2:a+1<m)(hb:b<=n)(hs:SortedIn lt a m d):
 Calls prog 321 #[LS f lb sf sb,Y1 Y2 a,Y1 Y2 m,Y1 Y2 b] W λe w'=>e=.returned (.tuple #[])/\∃e,SU enc k g T cs W e w'/\PermIn a b d e/\SortedIn lt a b e:=by
 have hB:SU enc k g T cs W d (W.alloc (sh f lb sf sb)):=h0.more (Up.al _ (Up.rfl' W));have tQ:=λdj wr hS xg i j hi hj=>BG (dj:=dj) (wr:=wr) f lb sf sb n hL h0 hS xg pB i j hi hj
 have HB:Hid (SU enc k g T cs W d (W.alloc (sh f lb sf sb))):=hB;have HSs:Hid (SortedIn lt a m d):=hs;have hg:=h0.lt;clear h0 hL hs;have hna:((m:Int)-(a:Int)==1)=false:=by grind
 have hmb:(b:Int)-(m:Int)=1:=Yn;have H1:Hid (b=m+1):=h1;have ZiO:m<b:=Yn;clear h1
 go_enter func321,ntmps321
 go_wp2
 clear hna hmb
 go_loopw [12,13] (λvi vj wr=>∃(i j:Nat),vi=Y1 Y2 i/\vj=Y1 Y2 j/\a<=i/\i<=j/\j<=m/\(i=a\/lt d[m]! d[i-1]! = YZ)/\(j=m\/lt d[m]! d[j]! = YY)/\SU enc k g T cs (W.alloc (sh f lb sf sb)) d wr) (λvi vj _=>(intOf vj).toNat-(intOf vi).toNat)
 case atStart=>exact⟨a,m,rfl,rfl,Yn,Yn,Yn,.inl rfl,.inl rfl,hB.self⟩
 case round=>
  obtain⟨i,j,rfl,rfl,hi,zf,hj,CL,Hp,hS⟩:=hrel;have c0:wr.cell? ⟨W.heap.size,0,YX⟩=YW (.func (.func f) #[] lb):=by rw[hS.AP Yq Yn];simp
  have c1:wr.cell? ⟨W.heap.size,1,YX⟩=YW (.func (.func sf) #[] sb):=by rw[hS.AP Yq Yn];simp
  have HS:Hid (SU enc k g T cs (W.alloc (sh f lb sf sb)) d wr):=hS;have HC1:Hid (i=a\/lt d[m]! d[i-1]! = YZ):=CL;have HC2:Hid (j=m\/lt d[m]! d[j]! = YY):=Hp;clear hS hB CL Hp
  by_cases bX:i<j
  ·have hl:=tQ d wr HS.out hd m ((i+j) / 2) Yn Yn
   rw[show(((i+j) / 2:Nat):Int)=((i:Int)+(j:Int)) / 2 by omega]at hl
   clear tQ
   cases sR:lt d[m]! d[(i+j) / 2]! with
   |true=>
    rw[sR]at hl
    go_wp2_with (go_at_fn f;refine hl.mono ?_;rintro e w' ⟨rfl,hS,c0',c1',_⟩)
    refine⟨?_,by simp[intOf];omega⟩
    exact⟨i,(i+j) / 2,rfl,by rfl,Yn,Yn,Yn,HC1.out,.inr sR,hS⟩
   |false=>
    rw[sR]at hl
    go_wp2_with (go_at_fn f;refine hl.mono ?_;rintro e w' ⟨rfl,hS,c0',c1',_⟩)
    refine⟨?_,by simp[intOf];omega⟩
    exact⟨(i+j) / 2+1,j,by rfl,rfl,Yn,Yn,Yn,.inr Yv,HC2.out,hS⟩
  ·have Zc8:i=j:=Yn
   subst Zc8
   go_wp2
   go_loopw [15] (λvq wr2=>∃q:Nat,vq=Y1 Y2 ((m:Int)-(q:Int))/\q+i<=m/\SU enc k g T cs (W.alloc (sh f lb sf sb)) (Uk d m q) wr2) (λvq _=>(intOf vq).toNat)
   case atStart=>exact⟨0,by rfl,Yn,HS.out⟩
   case round=>
    obtain⟨q,rfl,hq,IQ⟩:=hrel;have c0:wr.cell? ⟨W.heap.size,0,YX⟩=YW (.func (.func f) #[] lb):=by rw[IQ.AP Yq Yn];simp
    have c1:wr.cell? ⟨W.heap.size,1,YX⟩=YW (.func (.func sf) #[] sb):=by rw[IQ.AP Yq Yn];simp
    have KM:Hid (SU enc k g T cs (W.alloc (sh f lb sf sb)) (Uk d m q) wr):=IQ;clear IQ
    by_cases hqi:q+i<m
    ·have hs:=pB wr (Uk d m q) KM.out.hold YT (m-q) (m-q-1) Yn Yn
     rw[Wc,Wc,show((m-q-1:Nat):Int)=(m:Int)-(q:Int)-1 by omega,show((m-q:Nat):Int)=(m:Int)-(q:Int)by omega]at hs
     have I1:(i:Int)<(m:Int)-(q:Int):=Yn
     go_wp2
     exact⟨⟨q+1,by grind,Yn,KM.out.swap hk YT YT⟩,by simp[intOf];omega⟩
    ·have Zhd:¬(i:Int)<(m:Int)-(q:Int):=Yn
     go_wp2
     (try simp only[Exit.inBlock,Exit.then])
     refine bodyPost_ret (results_none rfl _ _ _) rfl ?_;obtain rfl:=H1.out;refine⟨rfl,Uk d m q,HB.out.trans KM.out,Kl d q Yn Yn,?_⟩;exact Pt hO HSs.out hi hj HC1.out HC2.out (λk=>by rw[show i=m-q by omega];exact N7 d q Yn Yn k)
end
end Go.Proofs.YtdilaemengjipaaGreatDoor
namespace Go.Proofs.YtdilaemengjipaaGreatDoor
set_option maxRecDepth 10000
open Go.RowKit
def dg(u:Nat):List UInt8:=if h:u=0 then []else dg (u / 10)++[WC (48+u % 10)]
termination_by u
decreasing_by omega
theorem FZ:dg 0=[]:=by rw[dg,dif_pos rfl]
theorem Lm{u:Nat}(h:0<u):dg u=dg (u / 10)++[WC (48+u % 10)]:=by rw[dg,dif_neg Yn]
theorem Ll:∀(k u:Nat),u<=k->0<u->dg u=Lib.decDigits u
 |0,u,h,h0=>Yn
 |k+1,u,h,h0=>by
  rw[Lm h0,Lib.decDigits]
  by_cases zG:u<10
  ·rw[dif_pos zG,show u / 10=0 by omega,FZ,show u % 10=u by omega];rfl
  ·rw[dif_neg zG,Ll k (u / 10) Yn Yn]
def cE(l:List UInt8):ByteArray:=⟨l.toArray⟩
theorem DY(c:Nat)(l:List UInt8):strOfNums [(c:Int)]++cE l=cE (WC c::l):=by
 apply WX;rw[XW];simp[strOfNums,cE]
theorem bD(l:List UInt8):(cE l).size=l.length:=by simp[cE,W7]
theorem ZcO(u:Nat)(h:u<=9223372036854775808):(dg u).length<=21:=by
 rcases Nat.eq_zero_or_pos u with rfl|h0
 ·rw[FZ];simp
 ·rw[Ll u u (VY _) h0]
  have:=Lib.itoa_length_le (-(u:Int)) Yn Yn;unfold Lib.itoa at this
  rw[if_pos Yn,show(-(u:Int)).natAbs=u by omega]at this
  simp at this
  omega
theorem CF(n:Int)(h0:-9223372036854775808<=n)(h1:n<=9223372036854775807)(w:World):
 Calls prog 118 #[Y1 Y2 n] w λe w'=>e=.returned (.string (cE (Lib.itoa n)))/\Up w w':=by
 by_cases hn0:n=0
 ·subst hn0
  go_enter func118,ntmps118
  go_wp2
  go_ret
  refine⟨?_,by(repeat(first|exact Up.rfl' _|(refine Up.al _ ?_) |(refine Up.dr _ ?_) |(refine Up.rR ?_) |(refine Up.sc ?_ Yt _) |(refine Up.step Yz ?_)))⟩
  congr 1
  unfold Lib.itoa;rw[if_neg Yn,Lib.decDigits,dif_pos Yy];rfl
 ·have r9:∀l:List UInt8,dg n.natAbs=l->(if n<0 then 45::l else l)=Lib.itoa n:=by
   rintro l rfl;rw[Ll _ _ (VY _) Yn];unfold Lib.itoa
   split
   ·rfl
   ·rw[show n.natAbs=n.toNat by omega]
  have hlen:=ZcO n.natAbs Yn
  go_enter func118,ntmps118
  go_wp2
  go_loopw [3,4] (λss xx wr=>∃(m:Int) (l:List UInt8),xx=Y1 Y2 m/\ss=.string (cE l)/\dg m.natAbs++l=dg n.natAbs/\-9223372036854775808<=m/\m<=9223372036854775807/\Up w wr) (λ_ xx _=>(intOf xx).natAbs)
  case atStart=>exact⟨n,[],rfl,rfl,by simp,h0,h1,by(repeat(first|exact Up.rfl' _|(refine Up.al _ ?_) |(refine Up.dr _ ?_) |(refine Up.rR ?_) |(refine Up.sc ?_ Yt _) |(refine Up.step Yz ?_)))⟩
  case round=>
   obtain⟨m,l,rfl,rfl,hd,hm0,I2,hb⟩:=hrel;have hl:l.length<=21:=by
    have:=congrArg List.length hd;rw[List.length_append]at this
    omega
   by_cases hz:m=0
   ·subst hz
    have xg:l=dg n.natAbs:=by simpa[FZ]using hd
    have hs:(cE l).size<=30:=by rw[bD];omega
    have hf:=r9 l xg.symm;clear r9;have h45:(⟨#[45]⟩:ByteArray).size=1:=rfl;have HF:=Lib.hid hf;clear hf hd xg
    go_wp2
    all_goals(try(exfalso;omega))
    all_goals(go_ret;refine⟨?_,by(repeat(first|exact Up.rfl' _|(refine Up.al _ ?_) |(refine Up.dr _ ?_) |(refine Up.rR ?_) |(refine Up.sc ?_ Yt _) |(refine Up.step Yz ?_)))⟩;have hf:=HF.out;first|(rw[if_pos Yn]at hf;rw[<-hf];rfl) |(rw[if_neg Yn]at hf;exact congrArg (λl=>Ending.returned (.string (cE l))) hf))
   ·have hs:(cE l).size<=30:=by rw[bD];omega
    have hu8:∀c:Nat,c<10->WC (48+c)=WC (48+c):=λ_ _=>rfl
    by_cases ZiP:m<0
    ·obtain⟨u,rfl⟩:∃u:Nat,m=-(u:Int):=⟨m.natAbs,Yn⟩
     have hu:0<u:=Yn;rw[show(-(u:Int)).natAbs=u by omega,Lm hu]at hd
     have zJ:=λz:Int=>run_convert_bytes_arg (P:=prog) (wr.alloc (.cells #[.int .u8 z] 5)) 22 5 Tryz.underlying22 Tryz.underlying5 wr.heap.size 0 1 1 [z] rfl (λi hi=>(by obtain rfl:i=0:=Yn;simp[go_sem])) 9 Tryz.underlying9
     have ZiG:=zJ (48+(u:Int) % 10);have ZiH:=zJ (48 + -((u:Int) % 10));clear zJ;have uV:(strOfNums [48+(u:Int) % 10]).size=1:=by simp[strOfNums,W7]
     have ZiU:(strOfNums [48 + -((u:Int) % 10)]).size=1:=by simp[strOfNums,W7]
     go_wp2
     all_goals(try(exfalso;omega))
     ·refine⟨⟨-((u / 10:Nat):Int),WC (48+u % 10)::l,by congr 1,?_,?_,Yn,Yn,by(repeat(first|exact Up.rfl' _|(refine Up.al _ ?_) |(refine Up.dr _ ?_) |(refine Up.rR ?_) |(refine Up.sc ?_ Yt _) |(refine Up.step Yz ?_)))⟩,by simp[intOf];omega⟩
      ·rw[show(48+(u:Int) % 10)=((48+u % 10:Nat):Int)by omega,DY]
      ·rw[show(-((u / 10:Nat):Int)).natAbs=u / 10 by omega,<-hd];simp
     ·refine⟨⟨-((u / 10:Nat):Int),WC (48+u % 10)::l,by congr 1,?_,?_,Yn,Yn,by(repeat(first|exact Up.rfl' _|(refine Up.al _ ?_) |(refine Up.dr _ ?_) |(refine Up.rR ?_) |(refine Up.sc ?_ Yt _) |(refine Up.step Yz ?_)))⟩,by simp[intOf];omega⟩
      ·rw[show(48 + -((u:Int) % 10))=((48+u % 10:Nat):Int)by omega,DY]
      ·rw[show(-((u / 10:Nat):Int)).natAbs=u / 10 by omega,<-hd];simp
    ·obtain⟨u,rfl⟩:∃u:Nat,m=(u:Int):=⟨m.toNat,Yn⟩
     have hu:0<u:=Yn;rw[show((u:Int)).natAbs=u by omega,Lm hu]at hd
     have zJ:=run_convert_bytes_arg (P:=prog) (wr.alloc (.cells #[.int .u8 (48+(u:Int) % 10)] 5)) 22 5 Tryz.underlying22 Tryz.underlying5 wr.heap.size 0 1 1 [48+(u:Int) % 10] rfl (λi hi=>(by obtain rfl:i=0:=Yn;simp[go_sem])) 9 Tryz.underlying9
     have uV:(strOfNums [48+(u:Int) % 10]).size=1:=by simp[strOfNums,W7]
     go_wp2
     refine⟨⟨((u / 10:Nat):Int),WC (48+u % 10)::l,by congr 1,?_,?_,Yn,Yn,by(repeat(first|exact Up.rfl' _|(refine Up.al _ ?_) |(refine Up.dr _ ?_) |(refine Up.rR ?_) |(refine Up.sc ?_ Yt _) |(refine Up.step Yz ?_)))⟩,by simp[intOf];omega⟩
     ·rw[show(48+(u:Int) % 10)=((48+u % 10:Nat):Int)by omega,DY]
     ·rw[show(((u / 10:Nat):Int)).natAbs=u / 10 by omega,<-hd];simp
end Go.Proofs.YtdilaemengjipaaGreatDoor
namespace Go.Proofs.YtdilaemengjipaaGreatDoor
set_option maxRecDepth 10000
open Go.RowKit Go.Shelf
set_option maxRecDepth 100000
abbrev TB:Nat:=108
theorem Rs(b:Nat)(w:World)(h0:w.cell? ⟨b,0,YX⟩=YW (.pointer (YW ⟨b,0,YX⟩))):
 Calls prog 116 #[.pointer (YW ⟨b,0,YX⟩)] w λe w'=>e=.returned (.tuple #[])/\w'=w:=by
 have X:=Tryz.lL;obtain⟨j,hj,_⟩:=Option.map_eq_some_iff.1 X.sizeBuilder
 go_enter func116,ntmps116
 go_wp2
 rw[Lib.run_neq_ptr_same w _ Tryz.underlying106 hj]
 go_wp2
 go_end0
 exact⟨rfl,rfl⟩
theorem OH(b:Nat)(w:World)(h0:w.cell? ⟨b,0,YX⟩=YW (.pointer YX))(hsh:w.shape? b=YW (TB,2))(hfz:w.frozen? ⟨b,0,YX⟩=YZ):
 Calls prog 116 #[.pointer (YW ⟨b,0,YX⟩)] w λe w'=>e=.returned (.tuple #[])/\w'=w.setCell ⟨b,0,YX⟩ (.pointer (YW ⟨b,0,YX⟩)):=by
 have X:=Tryz.lL;obtain⟨j,hj,hjs⟩:=Option.map_eq_some_iff.1 X.sizeBuilder
 go_enter func116,ntmps116
 go_wp2
 rw[Lib.run_to_unsafe w ⟨b,0,YX⟩ Tryz.underlying106 Tryz.underlying225 hj (by rw[hjs];decide) hsh (Nat.zero_lt_succ 1)]
 simp only[Result.andThen];rw[Oper.upon_value]
 go_wp2
 rw[run_callFunc_extern func185 Yp Yp Yp (e:=Extern.AbiNoEscape.same) Yp];rw[Lib.run_noEscape];simp only[Result.andThen];rw[Oper.upon_value]
 go_wp2
 rw[Lib.run_from_unsafe w ⟨b,0,YX⟩ Tryz.underlying225 Tryz.underlying106 hj hsh X.toX72.liesBuilder];simp only[Result.andThen];rw[Oper.upon_value]
 go_wp2
 go_end0
 exact⟨rfl,rfl⟩
theorem H4(B b:Nat)(bs:List Value)(w:World)(h:Lib.IsBuilder TB 5 B b bs w):
 Calls prog 116 #[.pointer (YW ⟨b,0,YX⟩)] w λe w'=>e=.returned (.tuple #[])/\(Lib.BuilderAt TB 5 B b (.pointer (YW ⟨b,0,YX⟩)) bs w'/\Below B w w'):=by
 rcases h with h|h
 ·refine(OH b w h.cell0 h.shape h.frozen0).mono ?_
  rintro e w' ⟨rfl,rfl⟩;exact⟨rfl,h.used _,(Below.refl B w).setCell (p:=⟨b,0,YX⟩) h.1 _⟩
 ·refine(Rs b w h.cell0).mono ?_
  rintro e w' ⟨rfl,rfl⟩;exact⟨rfl,h,Below.refl B _⟩
theorem Rq(B b:Nat)(bs:List Value)(c:Int)(w:World)(h:Lib.IsBuilder TB 5 B b bs w)(hlen:bs.length+1<=140737488355328)(hBw:B<=w.heap.size):
 Calls prog 261 #[.pointer (YW ⟨b,0,YX⟩),.int .u8 c] w λe w'=>e=.returned .nilIface/\(Lib.BuilderAt TB 5 B b (.pointer (YW ⟨b,0,YX⟩)) (bs++[.int .u8 c]) w'/\Below B w w'):=by
 have X:=Tryz.lL;obtain⟨i0,hi,hz0,KT,ER⟩:=info_parts X.infoByte
 go_enter func261,ntmps261
 go_wp2_with (go_at_call 116;refine(H4 B b bs _ h).mono ?_)
 rintro e w1 ⟨rfl,h1,qZ⟩;obtain⟨hB,v,xK,oC,gZ⟩:=h1;have c0:w1.cell? ⟨b,0,YX⟩=YW (.pointer (YW ⟨b,0,YX⟩)):=by rw[Lib.cell_of_heap xK];rfl
 have c1:w1.cell? ⟨b,1,YX⟩=YW v:=by rw[Lib.cell_of_heap xK];rfl
 go_wp2_with (at_builtin;refine wpList_append_own _ rfl _ _ 22 rfl B 5 i0 (.int .u8 0) 1 1 Tryz.underlying22 hi hz0 KT ER rfl Yy _ _ _ rfl (oC.alloc _) ⟨w1.heap.size,0,YX⟩ 1 1 [.int .u8 c] rfl rfl ?c1 ?c2 ?c3 ?c4 ?c5 ?_)
 case c1=>
  intro j u hj
  match j,hj with
  |0,hj=>simp at hj;subst hj;simp[Addr.add]
 case c2=>intro u hu;simp at hu;subst hu;rfl
 case c3=>unfold maxLen;omega
 case c4=>omega
 case c5=>have:=qZ.size;simp;omega
 intro v' w2 ym IX _;have bX:b<w1.heap.size:=by
  rcases Wv b w1.heap.size with h'|h'
  ·exact h'
  ·simp[Xu h']at xK
 have xJ:w2.heap[b]?=YW (.cells #[.pointer (YW ⟨b,0,YX⟩),v] TB (0,0)):=by
  rw[IX.block b Yw (λe=>gZ e.symm),Lib.alloc_old w1 _ b bX]
  exact xK
 have d0:w2.cell? ⟨b,0,YX⟩=YW (.pointer (YW ⟨b,0,YX⟩)):=by rw[Lib.cell_of_heap xJ];rfl
 have d1:w2.cell? ⟨b,1,YX⟩=YW v:=by rw[Lib.cell_of_heap xJ];rfl
 have f1:w2.frozen? ⟨b,1,YX⟩=false:=Lib.frozen_of_heap xJ 1;obtain⟨g,cap,rfl⟩:∃g cap,v'=.slice (YW ⟨g,0,YX⟩) (bs.length+1) cap:=by
  rcases ym.2 with⟨_,h0⟩ |⟨g,cap,cur,hv,_⟩
  ·omega
  ·exact⟨g,cap,hv⟩
 go_wp2
 go_ret
 refine⟨rfl,?_,?_⟩
 ·exact Lib.BuilderAt.put (T:=TB) (e:=5) hB xJ (bs':=bs++[.int .u8 c]) (by simpa using ym) X.neB5
 ·exact((qZ.alloc (by have:=qZ.size;omega) _).grown IX (by have:=qZ.size;simp;omega) (λk hk=>(oC.lt k hk).1)).setCell (p:=⟨b,1,YX⟩) hB _
theorem M8(B b:Nat)(bs:List Value)(s:ByteArray)(w:World)(h:Lib.IsBuilder TB 5 B b bs w)(hlen:bs.length+s.size<=140737488355328)(hBw:B<=w.heap.size):
 Calls prog 57 #[.pointer (YW ⟨b,0,YX⟩),.string s] w λe w'=>e=.returned (.tuple #[Y1 Y2 s.size,.nilIface])/\(Lib.BuilderAt TB 5 B b (.pointer (YW ⟨b,0,YX⟩)) (bs++Lib.strCells s) w'/\Below B w w'):=by
 have X:=Tryz.lL;obtain⟨i0,hi,hz0,KT,ER⟩:=info_parts X.infoByte
 go_enter func57,ntmps57
 go_wp2_with (go_at_call 116;refine(H4 B b bs _ h).mono ?_)
 rintro e w1 ⟨rfl,h1,qZ⟩;obtain⟨hB,v,xK,oC,gZ⟩:=h1;have c0:w1.cell? ⟨b,0,YX⟩=YW (.pointer (YW ⟨b,0,YX⟩)):=by rw[Lib.cell_of_heap xK];rfl
 have c1:w1.cell? ⟨b,1,YX⟩=YW v:=by rw[Lib.cell_of_heap xK];rfl
 go_wp2_with (at_builtin;refine Lib.wpList_append_own_string _ rfl _ _ 22 9 rfl B 5 i0 Tryz.underlying22 Tryz.underlying9 hi hz0 KT ER _ _ _ rfl oC s rfl ?c3 ?c4 ?c5 ?_)
 case c3=>unfold maxLen;omega
 case c4=>omega
 case c5=>have:=qZ.size;omega
 intro v' w2 ym IX _;have bX:b<w1.heap.size:=by
  rcases Wv b w1.heap.size with h'|h'
  ·exact h'
  ·simp[Xu h']at xK
 have xJ:w2.heap[b]?=YW (.cells #[.pointer (YW ⟨b,0,YX⟩),v] TB (0,0)):=by
  rw[IX.block b bX (λe=>gZ e.symm)]
  exact xK
 have d0:w2.cell? ⟨b,0,YX⟩=YW (.pointer (YW ⟨b,0,YX⟩)):=by rw[Lib.cell_of_heap xJ];rfl
 have d1:w2.cell? ⟨b,1,YX⟩=YW v:=by rw[Lib.cell_of_heap xJ];rfl
 have f1:w2.frozen? ⟨b,1,YX⟩=false:=Lib.frozen_of_heap xJ 1;obtain⟨ao,n',cap,rfl⟩:∃ao n' cap,v'=.slice ao n' cap:=by
  rcases ym.2 with⟨hv,_⟩ |⟨g,cap,cur,hv,_⟩
  ·exact⟨_,_,_,hv⟩
  ·exact⟨_,_,_,hv⟩
 go_wp2
 go_ret2
 refine⟨rfl,?_,?_⟩
 ·exact Lib.BuilderAt.put (T:=TB) (e:=5) hB xJ (bs':=bs++Lib.strCells s) (by simpa[Lib.strCells_length]using ym) X.neB5
 ·exact(qZ.grown IX (by have:=qZ.size;omega) (λk hk=>(oC.lt k hk).1)).setCell (p:=⟨b,1,YX⟩) hB _
end Go.Proofs.YtdilaemengjipaaGreatDoor
namespace Go.Proofs.YtdilaemengjipaaGreatDoor
set_option maxRecDepth 10000
open Go.RowKit
variable {r:ByteArray}
theorem Ot(w:World)(k:Nat)(os:Array Obj):Up w (Sort.grow (w.drewN k) os):=
 ⟨rfl,rfl,rfl,by simp,λb hb=>Sort.heap_grow_old _ _ hb⟩
theorem vw(n:Int)(h0:-9223372036854775808<=n)(h1:n<=9223372036854775807)(w:World)(ht:TabF w):
 Calls prog 46 #[Y1 Y2 n] w λe w'=>e=.returned (.string (cE (Lib.itoa n)))/\Up w w':=by
 have hI:=Tryz.strconv_Itoa n h0 h1 w ht.KX
 go_enter func46,ntmps46
 go_wp2_with (go_at_call 98;refine hI.mono ?_;rintro e w' ⟨rfl,k,os,rfl⟩)
 go_ret
 exact⟨rfl,Ot _ _ _⟩
theorem SY(i:Nat):Lib.itoa (i:Int)=Lib.decDigits i:=by
 unfold Lib.itoa;rw[if_neg Yn];rfl
theorem A7(i:Nat)(hi:i<100)(w:World):
 Calls prog 46 #[Y1 Y2 i] w λe w'=>e=.returned (.string (cE (Lib.itoa i)))/\w'=w:=by
 have hI:=Tryz.strconv_Itoa_small i hi w;rw[SY]
 go_enter func46,ntmps46
 go_wp2_with (go_at_call 98;refine hI.mono ?_;rintro e w' ⟨rfl,rfl⟩)
 go_ret
 exact⟨rfl,rfl⟩
def qd(n:Int)(d:Nat):List UInt8:=List.replicate (d-(Lib.itoa n).length) 48++Lib.itoa n
theorem TY(c:Nat):Lib.repeatL [48] c=List.replicate c (48:UInt8):=by
 induction c with
 |zero=>rfl
 |succ c ih=>
  rw[Lib.repeatL,ih,List.replicate_succ];rfl
theorem JP(n:Int)(d:Nat)(h0:-9223372036854775808<=n)(h1:n<=9223372036854775807)(hd:d<=20)(w:World)(ht:TabF w):
 Calls prog 162 #[Y1 Y2 n,Y1 Y2 d] w λe w'=>e=.returned (.string (cE (qd n d)))/\Up w w':=by
 have hF:=vw n h0 h1 w ht;have hlen:=Lib.itoa_length_le n h0 h1;have uV:(cE (Lib.itoa n)).size=(Lib.itoa n).length:=bD _;have hR:=λw1=>Tryz.strings_Repeat ⟨#[48]⟩ (d-(Lib.itoa n).length) w1 Yn (by show 1*_<=_;omega)
 have hsR:(⟨(Lib.repeatL [48] (d-(Lib.itoa n).length)).toArray⟩:ByteArray).size=d-(Lib.itoa n).length:=by simp[W7,Lib.repeatL_length]
 rw[show((d-(Lib.itoa n).length:Nat):Int)=max 0 ((d:Int)-((Lib.itoa n).length:Int))by omega]at hR
 go_enter func162,ntmps162
 go_wp2_with (first
  |(go_at_call 46;refine hF.mono ?_;rintro e w1 ⟨rfl,uW⟩)
  |(go_at_call 207;refine(hR _).mono ?_;rintro e w2 ⟨rfl,xM⟩))
 all_goals(try(exfalso;omega))
 go_ret
 refine⟨?_,Up.step xM uW⟩;show Ending.returned (.string (⟨(Lib.repeatL [48] (d-(Lib.itoa n).length)).toArray⟩++cE (Lib.itoa n)))=_
 congr 2
 apply WX;rw[XW];simp[cE,qd,TY]
def Aw(c:UInt8):Option (List UInt8):=if 48<=c.toNat/\c.toNat<=57 then YW [c]else if 65<=c.toNat/\c.toNat<=90 then YW (Lib.itoa ((c.toNat-55:Nat):Int))else YX
def nh:List UInt8->Option (List UInt8)
 | []=>YW []
 |c::cs=>match Aw c,nh cs with
  |some a,YW b=>YW (a++b)
  |_,_=>YX
theorem EG(l:List UInt8)(c:UInt8):nh (l++[c])=match nh l,Aw c with
 |some a,YW b=>YW (a++b)
 |_,_=>none:=by
 induction l with
 |nil=>
  show nh [c]=_;simp only[nh]
  cases Aw c<;>simp
 |cons x l ih=>
  simp only[List.cons_append,nh,ih]
  cases Aw x<;>cases nh l<;>cases Aw c<;>simp
theorem EF{l:List UInt8}{i:Nat}{c:UInt8}(h:l[i]?=YW c)(hc:Aw c=YX):nh l=none:=by
 induction l generalizing i with
 |nil=>simp at h
 |cons x l ih=>
  cases i with
  |zero=>simp at h;subst h;simp[nh,hc]
  |succ i=>
   have:=ih (i:=i) YV;simp only[nh,this]
   cases Aw x<;>rfl
theorem Oo(l:List UInt8)(k:Nat)(h:k<(cE l).size):l[k]?=YW ((cE l)[k]'(h)):=by
 have h':k<l.length:=by rw[bD]at h;exact h
 rw[List.getElem?_eq_getElem h'];rfl
theorem C0(i:Nat)(h:i<100):(Lib.itoa (i:Int)).length<=21:=
 Lib.itoa_length_le (i:Int) Yn Yn
theorem F0{c:UInt8}{a:List UInt8}(h:Aw c=YW a):a.length<=21:=by
 unfold Aw at h
 split at h
 ·cases h;simp
 ·split at h
  ·cases h;exact C0 _ (by have:=c.toNat_lt;omega)
  ·cases h
theorem Is(l:List UInt8)(hl:l.length<=1000000000)(w:World):
 Calls prog 208 #[.string (cE l)] w λe w'=>e=.returned (.tuple #[.string (cE ((nh l).getD [])),.bool ((nh l).isSome)])/\Up w w':=by
 have uV:(cE l).size=l.length:=bD _
 go_enter func208,ntmps208
 go_wp2
 go_loopw [5] (λii wr=>∃(k:Nat) (acc:List UInt8),k<=l.length/\ii=Y1 Y2 k/\nh (l.take k)=YW acc/\acc.length<=21*k/\Lib.IsBuilder 108 5 w.heap.size w.heap.size (Lib.byteCells acc) wr/\Up w wr) (λii _=>l.length-(intOf ii).toNat)
 case atStart=>
  exact⟨0,[],Yn,rfl,by simp[nh],by simp,Lib.fresh_isBuilder 108 5 w,by(repeat(first|exact Up.rfl' _|(refine Up.al _ ?_) |(refine Up.dr _ ?_) |(refine Up.rR ?_) |(refine Up.sc ?_ Yt _) |(refine Up.step Yz ?_)))⟩
 case round=>
  obtain⟨k,acc,hk,rfl,zH,VO,hI,hu⟩:=hrel;have hws:=hu.size
  by_cases bX:k<l.length
  ·have I1:k<(cE l).size:=Yn
   have hg:=Oo l k I1;have Po:nh (l.take (k+1))=match YW acc,Aw ((cE l)[k]'(I1))with
    |some a,YW b=>YW (a++b)
    |_,_=>none:=by
    rw[List.take_add_one,hg,show(YW (cE l)[k]).toList=[(cE l)[k]]from rfl,EG,zH]<;>rfl
   have uo:=((cE l)[k]'(I1)).toNat_lt;generalize hc:(cE l)[k]'(I1)=c at *
   by_cases h1:48<=c.toNat/\c.toNat<=57
   ·obtain⟨h1a,h1b⟩:=h1
    have hd:Aw c=YW [c]:=by unfold Aw;rw[if_pos ⟨h1a,h1b⟩]
    rw[hd]at Po
    go_wp2_with (go_at_call 261;refine(Rq w.heap.size w.heap.size _ _ _ hI (by rw[Lib.byteCells_length];omega) hws).mono ?_;rintro e W1 ⟨rfl,hI1,qZ⟩)
    go_roundw
    case rel=>
     refine⟨k+1,acc++[c],Yn,by simp,Po,by simp;omega,?_,Below.trans hu qZ⟩
     rw[Lib.byteCells_append];exact Or.inr hI1
    case measure=>simp[intOf];omega
   ·by_cases h2:65<=c.toNat/\c.toNat<=90
    ·obtain⟨h2a,h2b⟩:=h2
     have hd:Aw c=YW (Lib.itoa ((c.toNat-55:Nat):Int)):=by unfold Aw;rw[if_neg h1,if_pos ⟨h2a,h2b⟩]
     have hdl:=F0 hd;rw[hd]at Po
     have hF:=A7 (c.toNat-55) Yn;rw[show((c.toNat-55:Nat):Int)=((c.toNat:Int)-65)+10 by omega]at hF Po hdl
     go_wp2_with (first
      |(go_at_call 46;refine(hF _).mono ?_;rintro e w1 ⟨rfl,rfl⟩)
      |(go_at_call 57;refine(M8 w.heap.size w.heap.size _ _ _ hI (by rw[Lib.byteCells_length,bD];omega) hws).mono ?_;rintro e W1 ⟨rfl,hI1,qZ⟩))
     go_roundw
     case rel=>
      refine⟨k+1,acc++_,Yn,by simp,Po,by simp;omega,?_,Below.trans hu qZ⟩
      rw[Lib.byteCells_append];rw[Lib.strCells_eq]at hI1
      exact Or.inr hI1
     case measure=>simp[intOf];omega
    ·have hd:Aw c=none:=by unfold Aw;rw[if_neg h1,if_neg h2]
     have hn:=EF hg (by rw[hd])
     go_wp2
     all_goals(go_ret2;first|exact⟨rfl,hu⟩ |(rw[hn];exact⟨rfl,hu⟩))
  ·have hkl:k=l.length:=Yn
   subst hkl;rw[List.take_length]at zH
   go_wp2_with (go_at_call 58;refine(Tryz.Builder_String_any w.heap.size w.heap.size acc _ hI hws).mono ?_;rintro e W1 ⟨rfl,qZ⟩)
   go_ret2
   rw[zH];exact⟨rfl,Below.trans hu qZ⟩
theorem sZ{P:Program}{f:FuncId}{args:List PV}{r:PV}{val:Value}(h1:∀(w:World) (E:Env),dG w E r val)
 (h:∀(S:Nat->Prop) (β:Nat->Option qt) (w:World) (vs:Array Value),(∀b,S b->b<w.heap.size)->TabF w->vs.size=args.length->(∀(i:Nat) (p:PV),args[i]?=YW p->∃x,vs[i]?=YW x/\dG w (E1 S β 0) p x)->
  Calls P f vs w λe w'=>e=.returned val/\Up w w'):fa P f args [] r []:=by
 intro S β w vs ω hk hl ha;refine(h S β w vs hk.sz hk.KX.here hl λi p hp=>by obtain⟨x,h1,h2⟩:=ha i p hp;exact⟨x,h1,h2.Zh3⟩).mono ?_
 rintro e w' ⟨rfl,hu⟩;refine⟨val,E1 S β 0,rfl,⟨⟨hu.os,hu.tape,hu.output,hu.size,λb hb _=>hu.block b hb⟩,λb hb=>WJ (hk.sz b hb) hu.size,λl B hB hz=>?_,hk.inj,hk.used,hk.bu,λl mb hm=>(by simp at hm),hk.dom,hk.KX,λ_ _ h=>h.elim⟩,λb h=>h,λb h=>.inl h,⟨λl B _ h=>h,λ_ _ h=>h.elim⟩,h1 _ _⟩
 obtain⟨a,b,c⟩:=hk.own l B hB hz;exact⟨a,WJ b hu.size,c⟩
theorem Ue{w:World}{E:Env}{a x:Value}(h:dG w E (.v a) x):x=a:=h.iz.1
theorem ar1{vs:Array Value}{x0:Value}(h:vs.size=1)(h0:vs[0]?=YW x0):vs=#[x0]:=by
 apply Array.ext (by simp[h])
 intro i h2 h3;obtain rfl:i=0:=Yn
 simpa using(We.1 h0).2
theorem ar2{vs:Array Value}{x0 x1:Value}(h:vs.size=2)(h0:vs[0]?=YW x0)(h1:vs[1]?=YW x1):vs=#[x0,x1]:=by
 apply Array.ext (by simp[h])
 intro i hi h3;have a0:=(We.1 h0).2;have a1:=(We.1 h1).2
 match i,hi with
 |0,_=>simpa using a0
 |1,_=>simpa using a1
 |i+2,hi=>omega
def qp(n:Int):Prop:=-9223372036854775808<=n/\n<=9223372036854775807
instance (n:Int):Decidable (qp n):=by unfold qp;infer_instance
def cz(n:Int):Option ByteArray:=if qp n then YW (cE (Lib.itoa n))else YX
theorem yG(n:Int)(H:cz n=YW r):fa prog 46 [vi n] [] (Go.Proofs.YtdilaemengjipaaGreatDoor.vs r) []:=by
 unfold cz at H
 split at H
 case isFalse=>cases H
 rename_i hn;obtain rfl:=VX H;refine sZ (λw E=>.c (.v _ rfl)) λS β w vs uV ht hl ha=>?_
 obtain⟨x,hx,hr⟩:=ha 0 _ rfl;obtain rfl:=ar1 hl hx;obtain rfl:=Ue hr;exact vw n hn.1 hn.2 w ht
instance (n:Int):CT prog (cz n):=⟨46,[vi n],[],λr=>vs r,λr=>[],yG n⟩
def bN(n:Int):Option ByteArray:=if qp n then YW (cE (Lib.itoa n))else YX
theorem yI(n:Int)(H:bN n=YW r):fa prog 118 [vi n] [] (Go.Proofs.YtdilaemengjipaaGreatDoor.vs r) []:=by
 unfold bN at H
 split at H
 case isFalse=>cases H
 rename_i hn;obtain rfl:=VX H;refine sZ (λw E=>.c (.v _ rfl)) λS β w vs uV ht hl ha=>?_
 obtain⟨x,hx,hr⟩:=ha 0 _ rfl;obtain rfl:=ar1 hl hx;obtain rfl:=Ue hr;exact CF n hn.1 hn.2 w
instance (n:Int):CT prog (bN n):=⟨118,[vi n],[],λr=>vs r,λr=>[],yI n⟩
def mn(n d:Int):Option ByteArray:=if qp n/\0<=d/\d<=20 then YW (cE (qd n d.toNat))else YX
theorem De(n d:Int)(H:mn n d=YW r):fa prog 162 [vi n,vi d] [] (Go.Proofs.YtdilaemengjipaaGreatDoor.vs r) []:=by
 unfold mn at H
 split at H
 case isFalse=>cases H
 rename_i hn;obtain rfl:=VX H;refine sZ (λw E=>.c (.v _ rfl)) λS β w vs uV ht hl ha=>?_
 obtain⟨x,hx,hr⟩:=ha 0 _ rfl;obtain⟨x1,Pq,hr1⟩:=ha 1 _ rfl;obtain rfl:=ar2 hl hx Pq;obtain rfl:=Ue hr;obtain rfl:=Ue hr1;have:=JP n d.toNat hn.1.1 hn.1.2 Yn w ht
 rwa[show((d.toNat:Nat):Int)=d by omega]at this
instance (n d:Int):CT prog (mn n d):=⟨162,[vi n,vi d],[],λr=>vs r,λr=>[],De n d⟩
def nZ(s:ByteArray):Option (ByteArray×Bool):=if s.size<=1000000000 then YW (cE ((nh s.data.toList).getD []),(nh s.data.toList).isSome)else YX
theorem Dd(s:ByteArray){r:ByteArray×Bool}(H:nZ s=YW r):fa prog 208 [Go.Proofs.YtdilaemengjipaaGreatDoor.vs s] [] (.tu [Go.Proofs.YtdilaemengjipaaGreatDoor.vs r.1,vb r.2]) []:=by
 unfold nZ at H
 split at H
 case isFalse=>cases H
 rename_i hn;obtain rfl:=VX H;refine sZ (val:=.tuple #[.string (cE ((nh s.data.toList).getD [])),.bool ((nh s.data.toList).isSome)]) (λw E=>.tu _ _ rfl λj p x hp hx=>?_) λS β w vs uV ht hl ha=>?_
 ·match j,hp,hx with
  |0,hp,hx=>simp at hp hx;subst hp hx;exact .c (.v _ rfl)
  |1,hp,hx=>simp at hp hx;subst hp hx;exact .c (.v _ rfl)
  |j+2,hp,hx=>simp at hx
 ·obtain⟨x,hx,hr⟩:=ha 0 _ rfl
  obtain rfl:=ar1 hl hx;obtain rfl:=Ue hr;have:=Is s.data.toList (by rw[Array.length_toList];exact hn) w
  rwa[show cE s.data.toList=s from WX (by simp[cE])]at this
instance (s:ByteArray):CT prog (nZ s):=⟨208,[vs s],[],λr=>.tu [vs r.1,vb r.2],λr=>[],Dd s⟩
def kV(digits:Int)(s0:ByteArray):Option (ByteArray⊕ByteArray):=
 cond (Y0 ((s0.size:Int)<digits))
 ((cr (dC (⟨#[48]⟩) s0)).bind λ_=>
 YW (.inl (⟨#[48]⟩++s0)))
 (YW (.inr s0))
instance (digits:Int):bp (kV digits):=⟨λs0=>(.un::vi digits::(U 3 (vs s0::(U 9 [])))),λs0=>[]⟩
def lI(n:Int)(digits:Int):Option ByteArray:=
 (bN n).bind λy1=>
 (aE (kV digits) NN y1).bind (λo0=>
 YW o0)
instance (n:Int)(digits:Int):CT prog (lI n digits):=⟨236,[vi n,vi digits],[],λr=>vs r,λr=>[],cw (lI.eq_1 ..) func236 ntmps236 results236⟩
def n7(l:bl):Option ByteArray:=
 (cz l.aw).bind λy1=>
 (mn l.bO 9).bind λy2=>
 (cr (dC y1 y2)).bind λ_=>
 (cr (dC (y1++y2) l.aY)).bind λ_=>
 YW ((y1++y2)++l.aY)
instance (l:bl):CT prog (n7 l):=⟨161,[.ag (mC l)],[],λr=>vs r,λr=>[],cw (n7.eq_1 ..) func161 ntmps161 results161⟩
end Go.Proofs.YtdilaemengjipaaGreatDoor
