/- A part of the proof of the statement in the last file of this claim: texts on the language of the program and on its functions. No condition. -/
import Derived.Test.YtbalgkakkoocjaaGreatCFnTwice4
import Derived.Test.YtbalgkakkoocjaaGreatCFnTwice1
import Derived.Sort.LotA
import Derived.Test.YtbalgkakkoocjaaGreatProg
import Derived.Shelf.SlSortFuncK.RowK2
import Derived.Shelf.GgSortFunc.SmallK
import Derived.Deep.DeepCutAuto
set_option linter.unusedVariables false
set_option linter.unusedSimpArgs false
set_option linter.unusedSectionVars false
open Nat renaming lt_or_ge→WB,le_refl→V3,lt_trichotomy→Xg,zero_add→Wb,add_sub_cancel→Xl
namespace Go.Proofs.YtbalgkakkoocjaaGreat
set_option maxRecDepth 10000
open Go.RowKit
set_option maxHeartbeats 16000000
def kV(list:List Int)(s0:Int):Option (Int⊕(Unit⊕Int)):=
 cond (decide (s0<(list.length:Int)))
 ((aC list s0).bind fun y1=>
 cond (!decide (y1=0))
 (some (.inr (.inr y1)))
 (some (.inl (aL (s0+1)))))
 (some (.inr (.inl ())))
instance (list:List Int):bm (kV list):=⟨fun s0=>(U 5 (.sl (list.map aG)::vi (list.length:Int)::vi s0::(U 7 []))),fun s0=>[]⟩
def oQ(list:List Int):Option Int:=
 (aD (kV list) NN 0).bind (bl (fun o0=>
 some 0) (fun r=>some r))
instance (list:List Int):CT Tryz.prog (oQ list):=⟨193,[.sl (list.map aG)],[],fun r=>vi r,fun r=>[],fun H=>by replace H:=H0 H;unfold oQ at H;exact aA Tryz.func193 rfl Tryz.ntmps193 Tryz.results193 fun Q hQ cR=>dU⟩
end Go.Proofs.YtbalgkakkoocjaaGreat
namespace Go.Proofs.YtbalgkakkoocjaaGreat
set_option maxRecDepth 10000
open Go.Sort
variable {a b i j m:Nat}
section
variable {α:Type} [Inhabited α]
theorem gx{d:Array α}{x y:Nat}(h:x=y):d[x]! = d[y]!:=by rw[h]
def vU(d:Array α)(a b:Nat):Nat→Array α
 |0=>d
 |n+1=>swp (vU d a b n) (a+n) (b+n)
theorem oT(d:Array α)(a b:Nat):∀n,(vU d a b n).size=d.size
 |0=>rfl
 |n+1=>by rw[vU,size_swp,oT d a b n]
theorem wP(d:Array α){a b lo hi:Nat}(h1:lo≤a):∀n,a+n≤hi→lo≤b→b+n≤hi→hi≤d.size→PermIn lo hi d (vU d a b n)
 |0,_,_,_,_=>permIn_refl _ _ _
 |n+1,h2,h3,h4,h5=>permIn_trans _ _ _ _ _ (wP d h1 n (by omega) h3 (by omega) h5) (swp_permIn _ _ _ _ _ (by omega) (by omega) (by omega) (by omega) (by rw[oT];omega))
theorem zf(d:Array α){a b:Nat}:∀n,a+n≤b→b+n≤d.size→∀k,(vU d a b n)[k]! = if a≤k∧k<a+n then d[b+(k-a)]! else if b≤k∧k<b+n then d[a+(k-b)]! else d[k]!
 |0,_,_,k=>by rw[if_neg (by omega),if_neg (by omega)];rfl
 |n+1,h1,h2,k=>by
  have ih:=zf d (a:=a) (b:=b) n (by omega) (by omega)
  rw[vU,swp_get (vU d a b n) (i:=a+n) (j:=b+n) (by rw[oT];omega) (by rw[oT];omega),ih,ih,ih]
  repeat' split
  all_goals first|(exfalso;omega) |exact gx (by omega)
def o8(d:Array α)(a m b k:Nat):α:=if a≤k∧k<a+(b-m)then d[m+(k-a)]! else if a+(b-m)≤k∧k<b then d[k-(b-m)]! else d[k]!
theorem Vr(e:Array α)(h:j<i)(hi:i≤m)(hs:m+j≤e.size)(k:Nat):o8 (vU e (m-i) m j) (m-i+j) m (m+j) k=o8 e (m-i) m (m+j) k:=by
 unfold o8
 simp only[zf e (a:=m-i) (b:=m) j (by omega) (by omega)]
 repeat' split
 all_goals first|(exfalso;omega) |exact gx (by omega)
theorem Vs(e:Array α)(h:i<j)(hi:i≤m)(hs:m+j≤e.size)(k:Nat):o8 (vU e (m-i) (m+j-i) i) (m-i) m (m+j-i) k=o8 e (m-i) m (m+j) k:=by
 unfold o8
 simp only[zf e (a:=m-i) (b:=m+j-i) i (by omega) (by omega)]
 repeat' split
 all_goals first|(exfalso;omega) |exact gx (by omega)
theorem Vq(e:Array α)(hi:i≤m)(hs:m+i≤e.size)(k:Nat):(vU e (m-i) m i)[k]! = o8 e (m-i) m (m+i) k:=by
 unfold o8
 rw[zf e i (by omega) (by omega)]
 repeat' split
 all_goals first|(exfalso;omega) |exact gx (by omega)
theorem Ae(d:Array α)(h:m≤a∨b≤m)(Ba:a≤m)(hb:m≤b)(k:Nat):d[k]! = o8 d a m b k:=by
 unfold o8
 repeat' split
 all_goals first|(exfalso;omega) |exact gx (by omega)
def SN(d:Array α)(a:Nat):Nat→Array α
 |0=>d
 |n+1=>swp (SN d a n) (a+n) (a+n+1)
theorem sP(d:Array α)(a:Nat):∀n,(SN d a n).size=d.size
 |0=>rfl
 |n+1=>by rw[SN,size_swp,sP d a n]
theorem J0(d:Array α){a hi:Nat}:∀n,a+n<hi→hi≤d.size→PermIn a hi d (SN d a n)
 |0,_,_=>permIn_refl _ _ _
 |n+1,h2,h5=>permIn_trans _ _ _ _ _ (J0 d n (by omega) h5) (swp_permIn _ _ _ _ _ (by omega) (by omega) (by omega) (by omega) (by rw[sP];omega))
theorem Ns(d:Array α){a:Nat}:∀n,a+n<d.size→∀k,(SN d a n)[k]! = o8 d a (a+1) (a+1+n) k
 |0,h,k=>Ae d (.inr (by omega)) (by omega) (by omega) k
 |n+1,h,k=>by
  have ih:=Ns d (a:=a) n (by omega)
  rw[SN,swp_get (SN d a n) (i:=a+n) (j:=a+n+1) (by rw[sP];omega) (by rw[sP];omega),ih,ih,ih]
  unfold o8
  repeat' split
  all_goals first|(exfalso;omega) |exact gx (by omega)
def SM(d:Array α)(m:Nat):Nat→Array α
 |0=>d
 |n+1=>swp (SM d m n) (m-n) (m-n-1)
theorem sO(d:Array α)(m:Nat):∀n,(SM d m n).size=d.size
 |0=>rfl
 |n+1=>by rw[SM,size_swp,sO d m n]
theorem JZ(d:Array α){m lo:Nat}:∀n,lo+n≤m→m<d.size→PermIn lo (m+1) d (SM d m n)
 |0,_,_=>permIn_refl _ _ _
 |n+1,h2,h5=>permIn_trans _ _ _ _ _ (JZ d n (by omega) h5) (swp_permIn _ _ _ _ _ (by omega) (by omega) (by omega) (by omega) (by rw[sO];omega))
theorem Nr(d:Array α){m:Nat}:∀n,n≤m→m<d.size→∀k,(SM d m n)[k]! = o8 d (m-n) m (m+1) k
 |0,h,h',k=>Ae d (.inl (by omega)) (by omega) (by omega) k
 |n+1,h,h',k=>by
  have ih:=Nr d (m:=m) n (by omega) h'
  rw[SM,swp_get (SM d m n) (i:=m-n) (j:=m-n-1) (by rw[sO];omega) (by rw[sO];omega),ih,ih,ih]
  unfold o8
  repeat' split
  all_goals first|(exfalso;omega) |exact gx (by omega)
variable {lt:α→α→Bool}
theorem tz(hO:SWO lt){d:Array α}(h:SortedIn lt a b d)(h1:a≤i)(h2:i≤j)(h3:j<b):lt d[j]! d[i]! = false:=by
 rcases WB i j with h4|h4
 ·exact h i j h1 h4 h3
 ·have:i=j:=by omega
  subst this;exact hO.irrefl _
theorem uI{a b a' b':Nat}{d:Array α}(h:SortedIn lt a b d)(h1:a≤a')(h2:b'≤b):SortedIn lt a' b' d:=fun i j hi xa hj=>h i j (by omega) xa (by omega)
theorem xT{d e:Array α}(h:SortedIn lt a b d)(he:∀k,a≤k→k<b→e[k]! = d[k]!):SortedIn lt a b e:=fun i j hi xa hj=>by
 rw[he i hi (by omega),he j (by omega) hj];exact h i j hi xa hj
theorem Nt{d:Array α}(h:b≤a+1):SortedIn lt a b d:=fun i j hi xa hj=>by omega
theorem Za4(hO:SWO lt){a m b s t mid:Nat}{d e:Array α}(h1:SortedIn lt a m d)(h2:SortedIn lt m b d)(hs:a≤s∧s≤m)(ht:m≤t∧t≤b)(Zbe:s+(t-m)=mid)
 (c1:a<s→t<b→lt d[t]! d[s-1]! = false) (c2:s<m→m<t→lt d[t-1]! d[s]! = true) (hr:∀k,e[k]! = o8 d s m t k):
 SortedIn lt a s e∧SortedIn lt s mid e∧SortedIn lt mid t e∧SortedIn lt t b e∧∀i j,a≤i→i<mid→mid≤j→j<b→lt e[j]! e[i]! = false:=by
 have g1:∀k,k<s→e[k]! = d[k]!:=fun k h=>by rw[hr];unfold o8;rw[if_neg (by omega),if_neg (by omega)]
 have g2:∀k,s≤k→k<mid→e[k]! = d[m+(k-s)]!:=fun k h h'=>by rw[hr];unfold o8;rw[if_pos (by omega)]
 have g3:∀k,mid≤k→k<t→e[k]! = d[k-(t-m)]!:=fun k h h'=>by rw[hr];unfold o8;rw[if_neg (by omega),if_pos (by omega)]
 have g4:∀k,t≤k→e[k]! = d[k]!:=fun k h=>by rw[hr];unfold o8;rw[if_neg (by omega),if_neg (by omega)]
 refine⟨fun i j hi xa hj=>?_,fun i j hi xa hj=>?_,fun i j hi xa hj=>?_,fun i j hi xa hj=>?_,fun i j hi lV hj wv=>?_⟩
 ·rw[g1 i (by omega),g1 j hj];exact h1 i j hi xa (by omega)
 ·rw[g2 i hi (by omega),g2 j (by omega) hj];exact h2 _ _ (by omega) (by omega) (by omega)
 ·rw[g3 i hi (by omega),g3 j (by omega) hj];exact h1 _ _ (by omega) (by omega) (by omega)
 ·rw[g4 i hi,g4 j (by omega)];exact h2 i j (by omega) xa hj
 ·rcases WB i s with x|x<;>rcases WB j t with y|y
  ·rw[g1 i x,g3 j hj y];exact h1 _ _ hi (by omega) (by omega)
  ·rw[g1 i x,g4 j y]
   have a1:=tz hO h2 (i:=t) (j:=j) ht.1 y wv
   have a2:=c1 (by omega) (by omega)
   have a3:=tz hO h1 (i:=i) (j:=s-1) hi (by omega) (by omega)
   exact hO.ntrans _ _ _ (hO.ntrans _ _ _ a1 a2) a3
  ·rw[g2 i x lV,g3 j hj y]
   have a1:=tz hO h2 (i:=m+(i-s)) (j:=t-1) (by omega) (by omega) (by omega)
   have a2:=c2 (by omega) (by omega)
   have a3:=tz hO h1 (i:=s) (j:=j-(t-m)) hs.1 (by omega) (by omega)
   cases hv:lt d[j-(t-m)]! d[m+(i-s)]! with
   |false=>rfl
   |true=>
    cases hw:lt d[j-(t-m)]! d[t-1]! with
    |false=>rw[hO.ntrans _ _ _ hw a1]at hv;cases hv
    |true=>rw[hO.trans _ _ _ hw a2]at a3;cases a3
  ·rw[g2 i x lV,g4 j y];exact h2 _ _ (by omega) (by omega) wv
theorem glue(hO:SWO lt){a mid b:Nat}{e e1 e2:Array α}(hb:b≤e.size)(ha:a≤mid)(hm:mid≤b)(p1:PermIn a mid e e1)(p2:PermIn mid b e1 e2)(s1:SortedIn lt a mid e1)(s2:SortedIn lt mid b e2)
 (hc:∀i j,a≤i→i<mid→mid≤j→j<b→lt e[j]! e[i]! = false):PermIn a b e e2∧SortedIn lt a b e2:=by
 have z1:=p1.1
 have z2:=p2.1
 refine⟨permIn_trans _ _ _ _ _ (permIn_mono _ _ _ _ _ _ (V3 _) hm hb p1) (permIn_mono _ _ _ _ _ _ ha (V3 _) (by omega) p2),fun i j hi xa hj=>?_⟩
 have k1:∀i j,a≤i→i<mid→mid≤j→j<b→lt e1[j]! e1[i]! = false:=fun i j hi lV hj wv=>by
  rw[p1.2.1 j (.inr hj)]
  exact permIn_all e e1 a mid (fun x=>lt e[j]! x=false) (by omega) p1 (fun i h h'=>hc i j h h' hj wv) i hi lV
 have k2:∀i j,a≤i→i<mid→mid≤j→j<b→lt e2[j]! e2[i]! = false:=fun i j hi lV hj wv=>by
  rw[p2.2.1 i (.inl lV)]
  exact permIn_all e1 e2 mid b (fun y=>lt y e1[i]! = false) (by omega) p2 (fun j h h'=>k1 i j hi lV h h') j hj wv
 rcases WB i mid with x|x
 ·rcases WB j mid with y|y
  ·rw[p2.2.1 i (.inl x),p2.2.1 j (.inl y)];exact s1 i j hi xa y
  ·exact k2 i j hi x y hj
 ·exact s2 i j x xa hj
theorem RC(hO:SWO lt){d e:Array α}(h:SortedIn lt (a+1) b d)(h1:a+1≤i)(h2:i≤b)(c1:i=a+1∨lt d[i-1]! d[a]! = true)(c2:i=b∨lt d[i]! d[a]! = false)(hr:∀k,e[k]! = o8 d a (a+1) i k):SortedIn lt a b e:=by
 have g1:∀k,a≤k→k<i-1→e[k]! = d[k+1]!:=fun k h h'=>by rw[hr];unfold o8;rw[if_pos (by omega)];exact gx (by omega)
 have g2:e[i-1]! = d[a]!:=by rw[hr];unfold o8;rw[if_neg (by omega),if_pos (by omega)];exact gx (by omega)
 have g3:∀k,i≤k→e[k]! = d[k]!:=fun k h=>by rw[hr];unfold o8;rw[if_neg (by omega),if_neg (by omega)]
 have lo:∀p,a≤p→p<i-1→lt d[a]! d[p+1]! = false:=fun p h5 h6=>by
  rcases c1 with c1|c1
  ·omega
  ·exact hO.ntrans _ _ _ (hO.asymmA c1) (tz hO h (i:=p+1) (j:=i-1) (by omega) (by omega) (by omega))
 have hi:∀q,i≤q→q<b→lt d[q]! d[a]! = false:=fun q h5 h6=>by
  rcases c2 with c2|c2
  ·omega
  ·exact hO.ntrans _ _ _ (tz hO h (i:=i) (j:=q) h1 h5 h6) c2
 intro p q hp hpq hq
 rcases Xg p (i-1)with x|x|x
 ·rcases Xg q (i-1)with y|y|y
  ·rw[g1 p hp x,g1 q (by omega) y];exact h _ _ (by omega) (by omega) (by omega)
  ·rw[y,g2,g1 p hp x];exact lo p hp x
  ·rw[g1 p hp x,g3 q (by omega)];exact h _ _ (by omega) (by omega) hq
 ·rw[x,g2,g3 q (by omega)];exact hi q (by omega) hq
 ·rw[g3 p (by omega),g3 q (by omega)];exact h _ _ (by omega) hpq hq
theorem Oy(hO:SWO lt){d e:Array α}(h:SortedIn lt a m d)(h1:a≤i)(h2:i≤m)(c1:i=a∨lt d[m]! d[i-1]! = false)(c2:i=m∨lt d[m]! d[i]! = true)(hr:∀k,e[k]! = o8 d i m (m+1) k):SortedIn lt a (m+1) e:=by
 have g1:∀k,k<i→e[k]! = d[k]!:=fun k h=>by rw[hr];unfold o8;rw[if_neg (by omega),if_neg (by omega)]
 have g2:e[i]! = d[m]!:=by rw[hr];unfold o8;rw[if_pos (by omega)];exact gx (by omega)
 have g3:∀k,i<k→k≤m→e[k]! = d[k-1]!:=fun k h h'=>by rw[hr];unfold o8;rw[if_neg (by omega),if_pos (by omega)];exact gx (by omega)
 have lo:∀p,a≤p→p<i→lt d[m]! d[p]! = false:=fun p h5 h6=>by
  rcases c1 with c1|c1
  ·omega
  ·exact hO.ntrans _ _ _ c1 (tz hO h (i:=p) (j:=i-1) h5 (by omega) (by omega))
 have hi:∀q,i<q→q≤m→lt d[q-1]! d[m]! = false:=fun q h5 h6=>by
  rcases c2 with c2|c2
  ·omega
  ·exact hO.ntrans _ _ _ (tz hO h (i:=i) (j:=q-1) h1 (by omega) (by omega)) (hO.asymmA c2)
 intro p q hp hpq hq
 rcases Xg p i with x|x|x
 ·rcases Xg q i with y|y|y
  ·rw[g1 p x,g1 q y];exact h _ _ hp hpq (by omega)
  ·rw[y,g2,g1 p x];exact lo p hp x
  ·rw[g1 p x,g3 q y (by omega)];exact tz hO h (by omega) (by omega) (by omega)
 ·rw[x,g2,g3 q (by omega) (by omega)];exact hi q (by omega) (by omega)
 ·rw[g3 p x (by omega),g3 q (by omega) (by omega)];exact tz hO h (by omega) (by omega) (by omega)
def Qa(lt:α→α→Bool)(bs n:Nat)(d:Array α):Prop:=∀q,SortedIn lt (q*bs) (min (q*bs+bs) n) d
end
end Go.Proofs.YtbalgkakkoocjaaGreat
namespace Go.Proofs.YtbalgkakkoocjaaGreat
set_option maxRecDepth 10000
open Go.RowKit Go.Lib Go.Sort
set_option maxRecDepth 100000
set_option maxHeartbeats 4000000
variable {W w0:World}
section
variable {α:Type} [Inhabited α] {enc:α→List Value} {k:Nat} {g:Nat} {T:TypeId} {cs:Nat}
structure SU(enc:α→List Value)(k:Nat)(g:Nat)(T:TypeId)(cs:Nat)(w0:World)(d:Array α)(W:World):Prop where
 up:FX (fun b=>b=g) w0 W
 hold:HoldsK enc k W g 0 d
 row:∃cells,W.heap[g]?=some (.cells cells T (0,0))∧cells.size=cs
theorem SU.lt{d:Array α}(h:SU enc k g T cs w0 d W):g<W.heap.size:=by
 obtain⟨c,h1,_⟩:=h.row
 exact(Array.getElem?_eq_some_iff.1 h1).1
theorem SU.more{w0 W W':World}{d:Array α}(h:SU enc k g T cs w0 d W)(u:Up W W'):SU enc k g T cs w0 d W':=by
 have hl:=h.lt
 refine⟨⟨u.os.trans h.up.os,u.tape.trans h.up.tape,u.output.trans h.up.output,Nat.le_trans h.up.size u.size,fun b hb hn=>(u.block b (Nat.lt_of_lt_of_le hb h.up.size)).trans (h.up.block b hb hn)⟩,fun j hj=>⟨(u.cell (p:=⟨g,0+j,none⟩) hl).trans (h.hold j hj).1,(u.frozen (p:=⟨g,0+j,none⟩) hl).trans (h.hold j hj).2⟩,?_⟩
 obtain⟨c,h1,h2⟩:=h.row
 exact⟨c,(u.block g hl).trans h1,h2⟩
theorem SU.trans{w0 W W':World}{d d':Array α}(h:SU enc k g T cs w0 d W)(h':SU enc k g T cs W d' W'):SU enc k g T cs w0 d' W':=⟨h.up.trans h'.up fun _ _ h=>h,h'.hold,h'.row⟩
theorem SU.self{d:Array α}(h:SU enc k g T cs w0 d W):SU enc k g T cs W d W:=⟨FX.refl _ _,h.hold,h.row⟩
theorem SU.AL{d:Array α}(h:SU enc k g T cs w0 d W){b o:Nat}(hb:b<w0.heap.size)(hn:b≠g):W.cell? ⟨b,o,none⟩=w0.cell? ⟨b,o,none⟩:=cell_of_heap (h.up.block b hb hn)
theorem SU.swap(hk:∀x,(enc x).length=k){d:Array α}(h:SU enc k g T cs w0 d W){i j:Nat}(hi:i<d.size)(hj:j<d.size):SU enc k g T cs w0 (swp d i j) ((W.setCells g (i*k) (enc d[j]!)).setCells g (j*k) (enc d[i]!)):=by
 have e:=putRowK_swp enc k hk W g 0 d i j hi hj
 rw[putRowK_self enc k W g 0 d h.hold,Wb,Wb]at e
 rw[e]
 have hl:=h.lt
 refine⟨h.up.trans (O':=fun b=>b=g) ⟨rfl,rfl,rfl,by rw[size_putRowK];exact V3 _,fun b hb hn=>?_⟩ fun _ _ h=>h,holdsK_putRowK enc k W g 0 d _ h.hold (size_swp _ _ _),?_⟩
 ·show(W.heap.modify g _)[b]?=_
  rw[Array.getElem?_modify,if_neg (fun e=>hn e.symm)]
 ·obtain⟨c,h1,h2⟩:=h.row
  refine⟨putCells id 0 (flatK enc k (swp d i j)) c,?_,?_⟩
  ·show(W.heap.modify g _)[g]?=_
   rw[Array.getElem?_modify,if_pos rfl,h1]
   rfl
  ·simp[putCells,h2]
def sX(f:Nat)(lb:Array Value)(enc:α→List Value)(k:Nat)(lt:α→α→Bool)(g:Nat)(T:TypeId)(cs n:Nat)(w0:World):Prop:=
 ∀(d:Array α) (W:World),SU enc k g T cs w0 d W→d.size=n→∀i j:Nat,i<n→j<n→Calls Tryz.prog f (#[.int .i64 i,.int .i64 j]++lb) W fun e w'=>e=.returned (.bool (lt d[i]! d[j]!))∧Up W w'
theorem sX.on{f:Nat}{lb:Array Value}{lt:α→α→Bool}{n:Nat}{d:Array α}(h:sX f lb enc k lt g T cs n w0)(hW:SU enc k g T cs w0 d W):sX f lb enc k lt g T cs n W:=fun d' W' h'=>h d' W' (hW.trans h')
abbrev LS(f:Nat)(lb:Array Value)(sf:Nat)(sb:Array Value):Value:=.agg #[.func (.func f) #[] lb,.func (.func sf) #[] sb]
abbrev se(f:Nat)(lb:Array Value)(sf:Nat)(sb:Array Value):Obj:=.cells #[.func (.func f) #[] lb,.func (.func sf) #[] sb] 329
variable (hk:∀x,(enc x).length=k) (f:Nat) (lb:Array Value) (sf:Nat) (sb:Array Value) (n:Nat) (hn:n<1152921504606846976) (pe:SwapSwapsK Tryz.prog sf sb enc k g 0 n)
include hk hn pe
theorem VL{d:Array α}(hd:d.size=n)(h0:SU enc k g T cs W d W)(a b m:Nat)(h1:a+m≤b)(h2:b+m≤n):
 Calls Tryz.prog 381 #[LS f lb sf sb,.int .i64 a,.int .i64 b,.int .i64 m] W fun e w'=>e=.returned (.tuple #[])∧SU enc k g T cs W (vU d a b m) w':=by
 have hg:=h0.lt
 have hB:SU enc k g T cs W d (W.alloc (se f lb sf sb)):=h0.more (Up.al _ (Up.rfl' W))
 go_enter Tryz.func381,Tryz.ntmps381
 go_wp2
 go_loopw [8] (fun vi wr=>∃i:Nat,vi=.int .i64 i∧i≤m∧SU enc k g T cs (W.alloc (se f lb sf sb)) (vU d a b i) wr) (fun vi _=>m-(intOf vi).toNat)
 case atStart=>exact⟨0,by go_num,by omega,hB.self⟩
 case round=>
  obtain⟨i,rfl,him,hS⟩:=hrel
  have c1:wr.cell? ⟨W.heap.size,1,none⟩=some (.func (.func sf) #[] sb):=by rw[hS.AL (by simp) (by omega)];simp
  have HS:Hid (SU enc k g T cs (W.alloc (se f lb sf sb)) (vU d a b i) wr):=hS
  clear hS
  by_cases hi:i<m
  ·have hs:=pe wr (vU d a b i) HS.out.hold (by rw[oT];exact hd) (a+i) (b+i) (by omega) (by omega)
   rw[show((a+i:Nat):Int)=(a:Int)+(i:Int)by omega,show((b+i:Nat):Int)=(b:Int)+(i:Int)by omega]at hs
   go_wp2
   exact⟨⟨i+1,by go_num,by omega,HS.out.swap hk (by rw[oT];omega) (by rw[oT];omega)⟩,by simp[intOf];omega⟩
  ·go_wp2
   go_end0
   have:i=m:=by omega
   subst this
   exact⟨rfl,hB.trans HS.out⟩
theorem SB{d:Array α}(hd:d.size=n)(h0:SU enc k g T cs W d W)(a m b:Nat)(h1:a≤m)(h2:m≤b)(h3:b≤n)(h4:a<m∧m<b):
 Calls Tryz.prog 366 #[LS f lb sf sb,.int .i64 a,.int .i64 m,.int .i64 b] W fun e w'=>e=.returned (.tuple #[])∧∃e,SU enc k g T cs W e w'∧PermIn a b d e∧∀k,e[k]! = o8 d a m b k:=by
 have hg:=h0.lt
 have hB:SU enc k g T cs W d (W.alloc (se f lb sf sb)):=h0.more (Up.al _ (Up.rfl' W))
 have Tk:=fun(d':Array α) (W':World) (vt:d'.size=n) (h':SU enc k g T cs W' d' W') (a b m:Nat) (h1:a+m≤b) (h2:b+m≤n)=>VL hk f lb sf sb n hn pe (T:=T) (cs:=cs) vt h' a b m h1 h2
 go_enter Tryz.func366,Tryz.ntmps366
 go_wp2
 go_loopw [8,9] (fun vi vj wr=>∃(i j:Nat) (e:Array α),vi=.int .i64 i∧vj=.int .i64 j∧0<i∧0<j∧i≤m-a∧j≤b-m∧e.size=n∧PermIn a b d e∧(∀k,o8 e (m-i) m (m+j) k=o8 d a m b k)∧SU enc k g T cs (W.alloc (se f lb sf sb)) e wr) (fun vi vj _=>(intOf vi).toNat+(intOf vj).toNat)
 case atStart=>exact⟨m-a,b-m,d,by go_num,by go_num,by omega,by omega,V3 _,V3 _,hd,permIn_refl _ _ _,fun k=>by rw[show m-(m-a)=a by omega,show m+(b-m)=b by omega],hB.self⟩
 case round=>
  obtain⟨i,j,e,rfl,rfl,hi,hj,hia,hjb,he,hP,hR,hS⟩:=hrel
  have c0:wr.cell? ⟨W.heap.size,0,none⟩=some (.func (.func f) #[] lb):=by rw[hS.AL (by simp) (by omega)];simp
  have c1:wr.cell? ⟨W.heap.size,1,none⟩=some (.func (.func sf) #[] sb):=by rw[hS.AL (by simp) (by omega)];simp
  have HS:Hid (SU enc k g T cs (W.alloc (se f lb sf sb)) e wr):=hS
  have HR:Hid (∀k,o8 e (m-i) m (m+j) k=o8 d a m b k):=hR
  have HB:Hid (SU enc k g T cs W d (W.alloc (se f lb sf sb))):=hB
  clear hS hR hB h0
  by_cases xa:i=j
  ·subst xa
   have q:=Tk e wr he HS.out.self (m-i) m i (by omega) (by omega)
   rw[show((m-i:Nat):Int)=(m:Int)-(i:Int)by omega]at q
   go_wp2_with (go_at_call 381;refine q.mono ?_;rintro e w' ⟨rfl,hw⟩)
   go_end0
   exact⟨rfl,vU e (m-i) m i,(HB.out.trans HS.out).trans hw,permIn_trans _ _ _ _ _ hP (wP e (by omega) i (by omega) (by omega) (by omega) (by omega)),fun k=>(Vq e (by omega) (by omega) k).trans (HR.out k)⟩
  ·by_cases zm:j<i
   ·have q:=Tk e wr he HS.out.self (m-i) m j (by omega) (by omega)
    rw[show((m-i:Nat):Int)=(m:Int)-(i:Int)by omega]at q
    go_wp2_with (go_at_call 381;refine q.mono ?_;rintro e w' ⟨rfl,hw⟩)
    refine⟨⟨i-j,j,vU e (m-i) m j,by go_num,rfl,by omega,hj,by omega,hjb,by rw[oT];exact he,permIn_trans _ _ _ _ _ hP (wP e (by omega) j (by omega) (by omega) (by omega) (by omega)),fun k=>?_,HS.out.trans hw⟩,by simp[intOf];omega⟩
    rw[show m-(i-j)=m-i+j by omega]
    exact(Vr e zm (by omega) (by omega) k).trans (HR.out k)
   ·have q:=Tk e wr he HS.out.self (m-i) (m+j-i) i (by omega) (by omega)
    rw[show((m-i:Nat):Int)=(m:Int)-(i:Int)by omega,show((m+j-i:Nat):Int)=(m:Int)+(j:Int)-(i:Int)by omega]at q
    go_wp2_with (go_at_call 381;refine q.mono ?_;rintro e w' ⟨rfl,hw⟩)
    refine⟨⟨i,j-i,vU e (m-i) (m+j-i) i,rfl,by go_num,hi,by omega,hia,by omega,by rw[oT];exact he,permIn_trans _ _ _ _ _ hP (wP e (by omega) i (by omega) (by omega) (by omega) (by omega)),fun k=>?_,HS.out.trans hw⟩,by simp[intOf];omega⟩
    rw[show m+(j-i)=m+j-i by omega]
    exact(Vs e (by omega) (by omega) (by omega) k).trans (HR.out k)
omit hk hn pe in
theorem Bw{lt:α→α→Bool}{d0:Array α}(hL:sX f lb enc k lt g T cs n W)(h0:SU enc k g T cs W d0 W){dj:Array α}{wr:World}(hS:SU enc k g T cs (W.alloc (se f lb sf sb)) dj wr)(hd:dj.size=n)(Tk:SwapSwapsK Tryz.prog sf sb enc k g 0 n)(i j:Nat)(hi:i<n)(hj:j<n):
 Calls Tryz.prog f (#[.int .i64 i,.int .i64 j]++lb) wr fun e w'=>e=.returned (.bool (lt dj[i]! dj[j]!))∧SU enc k g T cs (W.alloc (se f lb sf sb)) dj w'∧w'.cell? ⟨W.heap.size,0,none⟩=some (.func (.func f) #[] lb)∧w'.cell? ⟨W.heap.size,1,none⟩=some (.func (.func sf) #[] sb)∧
  (callFunc sf (#[.int .i64 i,.int .i64 j]++sb)).run Tryz.prog w'=.ok (.value (.tuple #[])) ((w'.setCells g (i*k) (enc dj[j]!)).setCells g (j*k) (enc dj[i]!)):=by
 have hg:=h0.lt
 refine(hL.on (h0.more (Up.al _ (Up.rfl' W))) dj wr hS hd i j hi hj).mono ?_
 rintro e w' ⟨he,hu⟩
 have hS':=hS.more hu
 have hs:=Tk w' dj hS'.hold hd i j hi hj
 rw[Wb,Wb]at hs
 exact⟨he,hS',by rw[hS'.AL (by simp) (by omega)];simp,by rw[hS'.AL (by simp) (by omega)];simp,hs⟩
theorem Ox{lt:α→α→Bool}(eg:∀args w,(callFunc f args).run Tryz.prog w=.ok (.enter f args) w){d:Array α}(hd:d.size=n)(h0:SU enc k g T cs W d W)(hL:sX f lb enc k lt g T cs n W)(a b:Nat)(Ba:a≤b)(hb:b≤n):
 Calls Tryz.prog 339 #[LS f lb sf sb,.int .i64 a,.int .i64 b] W fun e w'=>e=.returned (.tuple #[])∧SU enc k g T cs W (Sort.insertionSort lt d a b) w':=by
 have hB:SU enc k g T cs W d (W.alloc (se f lb sf sb)):=h0.more (Up.al _ (Up.rfl' W))
 have tR:=fun dj wr hS vt i j hi hj=>Bw (dj:=dj) (wr:=wr) f lb sf sb n hL h0 hS vt pe i j hi hj
 have HB:Hid (SU enc k g T cs W d (W.alloc (se f lb sf sb))):=hB
 have hg:=h0.lt
 clear h0 hL
 go_enter Tryz.func339,Tryz.ntmps339
 go_wp2
 go_loopw [6] (fun vi wr=>∃(i:Nat) (dk:Array α),vi=.int .i64 i∧a<i∧i≤b+1∧dk.size=n∧SU enc k g T cs (W.alloc (se f lb sf sb)) dk wr∧
  insOuter lt a b i dk=insOuter lt a b (a+1) d) (fun vi _=>b+1-(intOf vi).toNat)
 case atStart=>exact⟨a+1,d,by go_num,by omega,by omega,hd,hB.self,rfl⟩
 case round=>
  obtain⟨i,dk,rfl,hai,hib,hsk,E0,hO⟩:=hrel
  have HO:Hid (insOuter lt a b i dk=insOuter lt a b (a+1) d):=hO
  clear hO
  go_wp2
  ·go_loopw [7] (fun vj wr2=>∃(j:Nat) (dj:Array α),vj=.int .i64 j∧a≤j∧j≤i∧dj.size=n∧SU enc k g T cs (W.alloc (se f lb sf sb)) dj wr2∧
    insInner lt a j dj=insInner lt a i dk) (fun vj _=>(intOf vj).toNat)
   case atStart=>exact⟨i,dk,rfl,by omega,V3 _,hsk,E0,rfl⟩
   case round=>
    obtain⟨j,dj,rfl,haj,wz,hsj,zK,hI⟩:=hrel
    have bF:i<b:=by assumption
    have c0:wr.cell? ⟨W.heap.size,0,none⟩=some (.func (.func f) #[] lb):=by rw[zK.AL (by simp) (by omega)];simp
    have c1:wr.cell? ⟨W.heap.size,1,none⟩=some (.func (.func sf) #[] sb):=by rw[zK.AL (by simp) (by omega)];simp
    have HW:Hid (SU enc k g T cs (W.alloc (se f lb sf sb)) dj wr):=zK
    have HI:Hid (insInner lt a j dj=insInner lt a i dk):=hI
    clear zK hI E0 hB
    have out:(j≤a∨lt dj[j]! dj[j-1]! = false)→∀W',SU enc k g T cs (W.alloc (se f lb sf sb)) dj W'→∃(i':Nat) (dk':Array α),Value.int .i64 ((i:Int)+1)=.int .i64 (i':Nat)∧a<i'∧i'≤b+1∧dk'.size=n∧
     SU enc k g T cs (W.alloc (se f lb sf sb)) dk' W'∧insOuter lt a b i' dk'=insOuter lt a b (a+1) d:=fun hs W' hW=>
     ⟨i+1,dj,by go_num,by omega,by omega,hsj,hW,
      by rw[←HO.out,insOuter_go _ _ _ _ _ bF,←HI.out,insInner_stop _ _ _ _ hs]⟩
    have OUT:Hid _:=out
    clear out
    by_cases hja:a<j
    ·have hl:=tR dj wr HW.out hsj j (j-1) (by omega) (by omega)
     rw[show(((j-1:Nat):Int))=(j:Int)-1 by omega]at hl
     clear tR
     cases sn:lt dj[j]! dj[j-1]! with
     |true=>
      rw[sn]at hl
      go_wp2_with (go_at_fn f;refine hl.mono ?_;rintro e w' ⟨rfl,hS,c0',c1',hs⟩)
      refine⟨?_,by simp[intOf];omega⟩
      (repeat apply Exists.intro)
      refine⟨⟨j-1,swp dj j (j-1),by congr 1<;>omega,by omega,by omega,by rw[size_swp];exact hsj,hS.swap hk (by omega) (by omega),?_⟩,by rw[decide_eq_true bF,show((j-1:Nat):Int)=(j:Int)-1 by omega]⟩
      rw[←HI.out,insInner_go lt a j dj hja sn]
     |false=>
      rw[sn]at hl
      go_wp2_with (go_at_fn f;refine hl.mono ?_;rintro e w' ⟨rfl,hS,c0',c1',hs⟩)
      exact⟨OUT.out (.inr sn) _ hS,by simp[intOf];omega⟩
    ·go_wp2
     exact⟨OUT.out (.inl (by omega)) _ HW.out,by simp[intOf];omega⟩
  ·have yz:¬i<b:=by assumption
   go_end0
   exact⟨rfl,by unfold Sort.insertionSort;rw[←HO.out,insOuter_stop _ _ _ _ _ yz];exact HB.out.trans E0⟩
end
section
variable {α:Type} [Inhabited α] {enc:α→List Value} {k:Nat} {g:Nat} {T:TypeId} {cs:Nat}
variable (hk:∀x,(enc x).length=k) (f:Nat) (lb:Array Value) (sf:Nat) (sb:Array Value) (n:Nat) (hn:n<1152921504606846976) (pe:SwapSwapsK Tryz.prog sf sb enc k g 0 n)
include hk hn pe
theorem ZbX{lt:α→α→Bool}(hO:SWO lt)(eg:∀args w,(callFunc f args).run Tryz.prog w=.ok (.enter f args) w){d:Array α}(hd:d.size=n)(h0:SU enc k g T cs W d W)(hL:sX f lb enc k lt g T cs n W)(a m b:Nat)(h1:m=a+1)(h2:m<b)(hb:b≤n)(hs:SortedIn lt m b d):
 Calls Tryz.prog 340 #[LS f lb sf sb,.int .i64 a,.int .i64 m,.int .i64 b] W fun e w'=>e=.returned (.tuple #[])∧∃e,SU enc k g T cs W e w'∧PermIn a b d e∧SortedIn lt a b e:=by
 have hB:SU enc k g T cs W d (W.alloc (se f lb sf sb)):=h0.more (Up.al _ (Up.rfl' W))
 have tR:=fun dj wr hS vt i j hi hj=>Bw (dj:=dj) (wr:=wr) f lb sf sb n hL h0 hS vt pe i j hi hj
 have HB:Hid (SU enc k g T cs W d (W.alloc (se f lb sf sb))):=hB
 have HSs:Hid (SortedIn lt m b d):=hs
 have hg:=h0.lt
 clear h0 hL hs
 have hma:(m:Int)-(a:Int)=1:=by omega
 have H1:Hid (m=a+1):=h1
 clear h1
 go_enter Tryz.func340,Tryz.ntmps340
 go_wp2
 go_loopw [8,9] (fun vi vj wr=>∃(i j:Nat),vi=.int .i64 i∧vj=.int .i64 j∧m≤i∧i≤j∧j≤b∧(i=m∨lt d[i-1]! d[a]! = true)∧(j=b∨lt d[j]! d[a]! = false)∧SU enc k g T cs (W.alloc (se f lb sf sb)) d wr) (fun vi vj _=>(intOf vj).toNat-(intOf vi).toNat)
 case atStart=>exact⟨m,b,rfl,rfl,by omega,by omega,by omega,.inl rfl,.inl rfl,hB.self⟩
 case round=>
  obtain⟨i,j,rfl,rfl,hi,xa,hj,u4,DT,hS⟩:=hrel
  have c0:wr.cell? ⟨W.heap.size,0,none⟩=some (.func (.func f) #[] lb):=by rw[hS.AL (by simp) (by omega)];simp
  have c1:wr.cell? ⟨W.heap.size,1,none⟩=some (.func (.func sf) #[] sb):=by rw[hS.AL (by simp) (by omega)];simp
  have HS:Hid (SU enc k g T cs (W.alloc (se f lb sf sb)) d wr):=hS
  have HC1:Hid (i=m∨lt d[i-1]! d[a]! = true):=u4
  have HC2:Hid (j=b∨lt d[j]! d[a]! = false):=DT
  clear hS hB u4 DT
  by_cases bF:i<j
  ·have hl:=tR d wr HS.out hd ((i+j) / 2) a (by omega) (by omega)
   rw[show(((i+j) / 2:Nat):Int)=((i:Int)+(j:Int)) / 2 by omega]at hl
   clear tR
   cases sn:lt d[(i+j) / 2]! d[a]! with
   |true=>
    rw[sn]at hl
    go_wp2_with (go_at_fn f;refine hl.mono ?_;rintro e w' ⟨rfl,hS,c0',c1',_⟩)
    refine⟨?_,by simp[intOf];omega⟩
    exact⟨(i+j) / 2+1,j,by go_num,rfl,by omega,by omega,by omega,.inr (by rw[Xl];exact sn),HC2.out,hS⟩
   |false=>
    rw[sn]at hl
    go_wp2_with (go_at_fn f;refine hl.mono ?_;rintro e w' ⟨rfl,hS,c0',c1',_⟩)
    refine⟨?_,by simp[intOf];omega⟩
    exact⟨i,(i+j) / 2,rfl,by go_num,by omega,by omega,by omega,HC1.out,.inr sn,hS⟩
  ·have Zbb:i=j:=by omega
   subst Zbb
   go_wp2
   go_loopw [11] (fun vq wr2=>∃q:Nat,vq=.int .i64 ((a:Int)+(q:Int))∧a+q+1≤i∧SU enc k g T cs (W.alloc (se f lb sf sb)) (SN d a q) wr2) (fun vq _=>i-(intOf vq).toNat)
   case atStart=>exact⟨0,by go_num,by omega,HS.out⟩
   case round=>
    obtain⟨q,rfl,hq,D4⟩:=hrel
    have c0:wr.cell? ⟨W.heap.size,0,none⟩=some (.func (.func f) #[] lb):=by rw[D4.AL (by simp) (by omega)];simp
    have c1:wr.cell? ⟨W.heap.size,1,none⟩=some (.func (.func sf) #[] sb):=by rw[D4.AL (by simp) (by omega)];simp
    have Eu:Hid (SU enc k g T cs (W.alloc (se f lb sf sb)) (SN d a q) wr):=D4
    clear D4
    by_cases hqi:a+q+1<i
    ·have hs:=pe wr (SN d a q) Eu.out.hold (by rw[sP];exact hd) (a+q) (a+q+1) (by omega) (by omega)
     rw[Wb,Wb,show((a+q+1:Nat):Int)=(a:Int)+(q:Int)+1 by omega,show((a+q:Nat):Int)=(a:Int)+(q:Int)by omega]at hs
     have Zbd:(a:Int)+(q:Int)<(i:Int)-1:=by omega
     go_wp2
     exact⟨⟨q+1,by congr 1,by omega,Eu.out.swap hk (by rw[sP];omega) (by rw[sP];omega)⟩,by simp[intOf];omega⟩
    ·have ZeX:¬(a:Int)+(q:Int)<(i:Int)-1:=by omega
     go_wp2
     (try simp only[Exit.inBlock,Exit.then])
     refine bodyPost_ret (results_none rfl _ _ _) rfl ?_
     refine⟨rfl,SN d a q,HB.out.trans Eu.out,J0 d q (by omega) (by omega),?_⟩
     obtain rfl:=H1.out
     exact RC hO HSs.out (by omega) hj HC1.out HC2.out (fun k=>by rw[show i=a+1+q by omega];exact Ns d q (by omega) k)
theorem ZbY{lt:α→α→Bool}(hO:SWO lt)(eg:∀args w,(callFunc f args).run Tryz.prog w=.ok (.enter f args) w){d:Array α}(hd:d.size=n)(h0:SU enc k g T cs W d W)(hL:sX f lb enc k lt g T cs n W)(a m b:Nat)(h1:b=m+1)(h2:a+1<m)(hb:b≤n)(hs:SortedIn lt a m d):
 Calls Tryz.prog 340 #[LS f lb sf sb,.int .i64 a,.int .i64 m,.int .i64 b] W fun e w'=>e=.returned (.tuple #[])∧∃e,SU enc k g T cs W e w'∧PermIn a b d e∧SortedIn lt a b e:=by
 have hB:SU enc k g T cs W d (W.alloc (se f lb sf sb)):=h0.more (Up.al _ (Up.rfl' W))
 have tR:=fun dj wr hS vt i j hi hj=>Bw (dj:=dj) (wr:=wr) f lb sf sb n hL h0 hS vt pe i j hi hj
 have HB:Hid (SU enc k g T cs W d (W.alloc (se f lb sf sb))):=hB
 have HSs:Hid (SortedIn lt a m d):=hs
 have hg:=h0.lt
 clear h0 hL hs
 have hna:((m:Int)-(a:Int)==1)=false:=by simp;omega
 have hmb:(b:Int)-(m:Int)=1:=by omega
 have H1:Hid (b=m+1):=h1
 have Zgr:m<b:=by omega
 clear h1
 go_enter Tryz.func340,Tryz.ntmps340
 go_wp2
 clear hna hmb
 go_loopw [12,13] (fun vi vj wr=>∃(i j:Nat),vi=.int .i64 i∧vj=.int .i64 j∧a≤i∧i≤j∧j≤m∧(i=a∨lt d[m]! d[i-1]! = false)∧(j=m∨lt d[m]! d[j]! = true)∧SU enc k g T cs (W.alloc (se f lb sf sb)) d wr) (fun vi vj _=>(intOf vj).toNat-(intOf vi).toNat)
 case atStart=>exact⟨a,m,rfl,rfl,by omega,by omega,by omega,.inl rfl,.inl rfl,hB.self⟩
 case round=>
  obtain⟨i,j,rfl,rfl,hi,xa,hj,u4,DT,hS⟩:=hrel
  have c0:wr.cell? ⟨W.heap.size,0,none⟩=some (.func (.func f) #[] lb):=by rw[hS.AL (by simp) (by omega)];simp
  have c1:wr.cell? ⟨W.heap.size,1,none⟩=some (.func (.func sf) #[] sb):=by rw[hS.AL (by simp) (by omega)];simp
  have HS:Hid (SU enc k g T cs (W.alloc (se f lb sf sb)) d wr):=hS
  have HC1:Hid (i=a∨lt d[m]! d[i-1]! = false):=u4
  have HC2:Hid (j=m∨lt d[m]! d[j]! = true):=DT
  clear hS hB u4 DT
  by_cases bF:i<j
  ·have hl:=tR d wr HS.out hd m ((i+j) / 2) (by omega) (by omega)
   rw[show(((i+j) / 2:Nat):Int)=((i:Int)+(j:Int)) / 2 by omega]at hl
   clear tR
   cases sn:lt d[m]! d[(i+j) / 2]! with
   |true=>
    rw[sn]at hl
    go_wp2_with (go_at_fn f;refine hl.mono ?_;rintro e w' ⟨rfl,hS,c0',c1',_⟩)
    refine⟨?_,by simp[intOf];omega⟩
    exact⟨i,(i+j) / 2,rfl,by go_num,by omega,by omega,by omega,HC1.out,.inr sn,hS⟩
   |false=>
    rw[sn]at hl
    go_wp2_with (go_at_fn f;refine hl.mono ?_;rintro e w' ⟨rfl,hS,c0',c1',_⟩)
    refine⟨?_,by simp[intOf];omega⟩
    exact⟨(i+j) / 2+1,j,by go_num,rfl,by omega,by omega,by omega,.inr (by rw[Xl];exact sn),HC2.out,hS⟩
  ·have Zbb:i=j:=by omega
   subst Zbb
   go_wp2
   go_loopw [15] (fun vq wr2=>∃q:Nat,vq=.int .i64 ((m:Int)-(q:Int))∧q+i≤m∧SU enc k g T cs (W.alloc (se f lb sf sb)) (SM d m q) wr2) (fun vq _=>(intOf vq).toNat)
   case atStart=>exact⟨0,by go_num,by omega,HS.out⟩
   case round=>
    obtain⟨q,rfl,hq,D4⟩:=hrel
    have c0:wr.cell? ⟨W.heap.size,0,none⟩=some (.func (.func f) #[] lb):=by rw[D4.AL (by simp) (by omega)];simp
    have c1:wr.cell? ⟨W.heap.size,1,none⟩=some (.func (.func sf) #[] sb):=by rw[D4.AL (by simp) (by omega)];simp
    have Eu:Hid (SU enc k g T cs (W.alloc (se f lb sf sb)) (SM d m q) wr):=D4
    clear D4
    by_cases hqi:q+i<m
    ·have hs:=pe wr (SM d m q) Eu.out.hold (by rw[sO];exact hd) (m-q) (m-q-1) (by omega) (by omega)
     rw[Wb,Wb,show((m-q-1:Nat):Int)=(m:Int)-(q:Int)-1 by omega,show((m-q:Nat):Int)=(m:Int)-(q:Int)by omega]at hs
     have Zbd:(i:Int)<(m:Int)-(q:Int):=by omega
     go_wp2
     exact⟨⟨q+1,by congr 1;omega,by omega,Eu.out.swap hk (by rw[sO];omega) (by rw[sO];omega)⟩,by simp[intOf];omega⟩
    ·have ZeX:¬(i:Int)<(m:Int)-(q:Int):=by omega
     go_wp2
     (try simp only[Exit.inBlock,Exit.then])
     refine bodyPost_ret (results_none rfl _ _ _) rfl ?_
     obtain rfl:=H1.out
     refine⟨rfl,SM d m q,HB.out.trans Eu.out,JZ d q (by omega) (by omega),?_⟩
     exact Oy hO HSs.out hi hj HC1.out HC2.out (fun k=>by rw[show i=m-q by omega];exact Nr d q (by omega) (by omega) k)
end
section
variable {α:Type} [Inhabited α] {enc:α→List Value} {k:Nat} {g:Nat} {T:TypeId} {cs:Nat}
variable (hk:∀x,(enc x).length=k) (f:Nat) (lb:Array Value) (sf:Nat) (sb:Array Value) (n:Nat) (hn:n<1152921504606846976) (pe:SwapSwapsK Tryz.prog sf sb enc k g 0 n)
include hk hn pe
theorem ZbZ{lt:α→α→Bool}(hO:SWO lt)(eg:∀args w,(callFunc f args).run Tryz.prog w=.ok (.enter f args) w):∀(N:Nat) (d:Array α) (W:World),d.size=n→SU enc k g T cs W d W→sX f lb enc k lt g T cs n W→∀(a m b:Nat),b-a≤N→a<m→m<b→b≤n→SortedIn lt a m d→SortedIn lt m b d→
 Calls Tryz.prog 340 #[LS f lb sf sb,.int .i64 a,.int .i64 m,.int .i64 b] W fun e w'=>e=.returned (.tuple #[])∧∃e,SU enc k g T cs W e w'∧PermIn a b d e∧SortedIn lt a b e:=by
 intro N
 induction N with
 |zero=>intro d W hd h0 hL a m b hN h1 h2;omega
 |succ N ih=>
 intro d W hd h0 hL a m b hN h1 h2 hb xD u6
 by_cases hma:m=a+1
 ·exact ZbX hk f lb sf sb n hn pe hO eg hd h0 hL a m b hma h2 hb u6
 by_cases hmb:b=m+1
 ·exact ZbY hk f lb sf sb n hn pe hO eg hd h0 hL a m b hmb (by omega) hb xD
 have hB:SU enc k g T cs W d (W.alloc (se f lb sf sb)):=h0.more (Up.al _ (Up.rfl' W))
 have tR:=fun dj wr hS vt i j hi hj=>Bw (dj:=dj) (wr:=wr) f lb sf sb n hL h0 hS vt pe i j hi hj
 have HL:Hid (∀d' W',SU enc k g T cs (W.alloc (se f lb sf sb)) d' W'→sX f lb enc k lt g T cs n W'):=fun d' W' h'=>hL.on (hB.trans h')
 have HB:Hid (SU enc k g T cs W d (W.alloc (se f lb sf sb))):=hB
 have Am:Hid (SortedIn lt a m d):=xD
 have Eu:Hid (SortedIn lt m b d):=u6
 have Zdn:=fun(d':Array α) (W':World) (vt:d'.size=n) (h':SU enc k g T cs W' d' W') (a m b:Nat) (h1:a≤m) (h2:m≤b) (h3:b≤n) (h4:a<m∧m<b)=>SB hk f lb sf sb n hn pe (T:=T) (cs:=cs) vt h' a m b h1 h2 h3 h4
 have HR:Hid _:=Zdn
 have HI:Hid _:=ih
 have HLS:Hid _:=tR
 have hg:=h0.lt
 clear h0 hL xD u6 Zdn ih tR
 have hna:((m:Int)-(a:Int)==1)=false:=by simp;omega
 have hnb:((b:Int)-(m:Int)==1)=false:=by simp;omega
 have Zbe:((a:Int)+(b:Int)) / 2=(((a+b) / 2:Nat):Int):=by omega
 obtain⟨mid,hmd⟩:∃mid,mid=(a+b) / 2:=⟨_,rfl⟩
 rw[←hmd]at Zbe
 have Kq:2*mid≤a+b:=by omega
 have AB:a+b≤2*mid+1:=by omega
 clear hmd hma hmb
 go_enter Tryz.func340,Tryz.ntmps340
 go_upto_if 106 with(fail)
 go_cut [18,19] (fun s18 s19 wx=>∃s0 r0:Nat,s18=.int .i64 s0∧s19=.int .i64 r0∧a≤s0∧s0≤r0∧r0≤m∧r0≤mid∧((m≤mid∧s0=a∧r0=m)∨(mid<m∧s0+b=mid+m∧r0=mid))∧wx=W.alloc (se f lb sf sb))
 case first=>
  by_cases hmm:mid<m
  ·have Ze5:(mid:Int)<(m:Int):=by omega
   go_wp2
   go_meet
   exact⟨mid+m-b,mid,by go_num,rfl,by omega,by omega,by omega,by omega,.inr ⟨hmm,by omega,rfl⟩,rfl⟩
  ·have Ze5:¬(mid:Int)<(m:Int):=by omega
   go_wp2
   go_meet
   exact⟨a,m,rfl,rfl,by omega,by omega,by omega,by omega,.inl ⟨by omega,rfl,rfl⟩,rfl⟩
 case rest=>
  obtain⟨s0,r0,rfl,rfl,ha0,Ux,hrm,Tj,hs0,rfl⟩:=hcut
  clear hna hnb Zbe hB
  have qb:Hid ((m≤mid∧s0=a∧r0=m)∨(mid<m∧s0+b=mid+m∧r0=mid)):=hs0
  clear hs0
  go_wp2
  go_loopw [18,19] (fun vs vr wr=>∃(s r:Nat),vs=.int .i64 s∧vr=.int .i64 r∧s0≤s∧s≤r∧r≤r0∧(s=s0∨lt d[mid+m-s]! d[s-1]! = false)∧(r=r0∨lt d[mid+m-1-r]! d[r]! = true)∧SU enc k g T cs (W.alloc (se f lb sf sb)) d wr) (fun vs vr _=>(intOf vr).toNat-(intOf vs).toNat)
  case atStart=>exact⟨s0,r0,rfl,rfl,by omega,by omega,by omega,.inl rfl,.inl rfl,HB.out.self⟩
  case round=>
   obtain⟨s,r,rfl,rfl,hs,Zgv,hr,u4,DT,hS⟩:=hrel
   have c0:wr.cell? ⟨W.heap.size,0,none⟩=some (.func (.func f) #[] lb):=by rw[hS.AL (by simp) (by omega)];simp
   have c1:wr.cell? ⟨W.heap.size,1,none⟩=some (.func (.func sf) #[] sb):=by rw[hS.AL (by simp) (by omega)];simp
   have HS:Hid (SU enc k g T cs (W.alloc (se f lb sf sb)) d wr):=hS
   have HC1:Hid (s=s0∨lt d[mid+m-s]! d[s-1]! = false):=u4
   have HC2:Hid (r=r0∨lt d[mid+m-1-r]! d[r]! = true):=DT
   clear hS u4 DT
   by_cases bF:s<r
   ·have hq:mid+m-1-(s+r) / 2<n:=by rcases qb.out with h|h<;>omega
    have hl:=HLS.out d wr HS.out hd (mid+m-1-(s+r) / 2) ((s+r) / 2) hq (by omega)
    rw[show((mid+m-1-(s+r) / 2:Nat):Int)=(mid:Int)+(m:Int)-1-((s:Int)+(r:Int)) / 2 by omega,show(((s+r) / 2:Nat):Int)=((s:Int)+(r:Int)) / 2 by omega]at hl
    cases sn:lt d[mid+m-1-(s+r) / 2]! d[(s+r) / 2]! with
    |true=>
     rw[sn]at hl
     go_wp2_with (go_at_fn f;refine hl.mono ?_;rintro e w' ⟨rfl,hS,c0',c1',_⟩)
     refine⟨?_,by simp[intOf];omega⟩
     exact⟨s,(s+r) / 2,rfl,by go_num,by omega,by omega,by omega,HC1.out,.inr sn,hS⟩
    |false=>
     rw[sn]at hl
     go_wp2_with (go_at_fn f;refine hl.mono ?_;rintro e w' ⟨rfl,hS,c0',c1',_⟩)
     refine⟨?_,by simp[intOf];omega⟩
     exact⟨(s+r) / 2+1,r,by go_num,rfl,by omega,by omega,by omega,.inr (by rw[Xl,show mid+m-((s+r) / 2+1)=mid+m-1-(s+r) / 2 by omega];exact sn),HC2.out,hS⟩
   ·have Zfb:s=r:=by omega
    subst Zfb
    have yz:¬s<s:=by omega
    obtain⟨t,ht⟩:∃t,t=mid+m-s:=⟨_,rfl⟩
    have htz:(mid:Int)+(m:Int)-(s:Int)=(t:Int):=by omega
    have hms:m≤t:=by omega
    have rD:s+(t-m)=mid:=by omega
    have yC:t≤b:=by rcases qb.out with h|h<;>omega
    have HT:Hid (t=mid+m-s):=ht
    clear ht
    have dz:∀x y:Nat,decide ((x:Int)<(y:Int))=decide (x<y):=fun x y=>by by_cases h:x<y<;>simp[h]
    have DZ:Hid _:=dz
    clear dz
    clear yz
    have Zef:Hid (a<s→t<b→lt d[t]! d[s-1]! = false):=fun h1 h2=>by
     rcases HC1.out with h|h
     ·rcases qb.out with h3|h3<;>omega
     ·rw[HT.out];exact h
    have Zeg:Hid (s<m→m<t→lt d[t-1]! d[s]! = true):=fun h1 h2=>by
     rcases HC2.out with h|h
     ·rcases qb.out with h3|h3<;>omega
     ·rw[show t-1=mid+m-1-s by rw[HT.out];omega];exact h
    go_upto_region 40 with(fail)
    go_cut [145] (fun Zfz wx=>Zfz=.bool (decide (s<m∧m<t))∧wx=wr)
    case first=>
     by_cases q1:s<m
     ·by_cases q2:m<t
      ·have q3:decide (s<m∧m<t)=true:=decide_eq_true ⟨q1,q2⟩
       go_wp2
       go_meet
       exact⟨by rw[q3],rfl⟩
      ·have q3:decide (s<m∧m<t)=false:=decide_eq_false fun h=>q2 h.2
       go_wp2
       go_meet
       exact⟨by rw[q3],rfl⟩
     ·have q3:decide (s<m∧m<t)=false:=decide_eq_false fun h=>q1 h.1
      go_wp2
      go_meet
      exact⟨by rw[q3],rfl⟩
    case rest=>
    obtain⟨rfl,rfl⟩:=hcut
    go_upto_if 145 with(fail)
    go_cut [] (fun wx=>∃e,SU enc k g T cs (W.alloc (se f lb sf sb)) e wx∧PermIn a b d e∧∀k,e[k]! = o8 d s m t k)
    case first=>
     by_cases q:s<m∧m<t
     ·have q3:decide (s<m∧m<t)=true:=decide_eq_true q
      have hc:=HR.out d wc hd HS.out.self s m t (by omega) (by omega) (by omega) q
      go_wp2_with (go_at_call 366;refine hc.mono ?_;rintro e w' ⟨rfl,hE⟩)
      go_meet
      obtain⟨e,Kn,Hv,MM⟩:=hE
      exact⟨e,HS.out.trans Kn,permIn_mono _ _ _ _ _ _ (by omega) (by omega) (by omega) Hv,MM⟩
     ·have q3:decide (s<m∧m<t)=false:=decide_eq_false q
      go_wp2
      go_meet
      exact⟨d,HS.out,permIn_refl _ _ _,fun k=>Ae d (by omega) (by omega) (by omega) k⟩
    case rest=>
    obtain⟨e,Kn,Hv,MM⟩:=hcut
    obtain⟨g1,g2,g3,g4,g5⟩:=Za4 hO Am.out Eu.out ⟨by omega,by omega⟩ ⟨hms,yC⟩ rD Zef.out Zeg.out MM
    have G1:Hid (SortedIn lt a s e):=g1
    have G2:Hid (SortedIn lt s mid e):=g2
    have G3:Hid (SortedIn lt mid t e):=g3
    have G4:Hid (SortedIn lt t b e):=g4
    have G5:Hid (∀i j,a≤i→i<mid→mid≤j→j<b→lt e[j]! e[i]! = false):=g5
    have hed:e.size=n:=Hv.1.trans hd
    have c0:wc.cell? ⟨W.heap.size,0,none⟩=some (.func (.func f) #[] lb):=by rw[Kn.AL (by simp) (by omega)];simp
    have c1:wc.cell? ⟨W.heap.size,1,none⟩=some (.func (.func sf) #[] sb):=by rw[Kn.AL (by simp) (by omega)];simp
    have HE1:Hid (SU enc k g T cs (W.alloc (se f lb sf sb)) e wc):=Kn
    have HE2:Hid (PermIn a b d e):=Hv
    clear g1 g2 g3 g4 g5 Kn Hv MM
    go_upto_region 42 with(fail)
    go_cut [158] (fun ZfA wx=>ZfA=.bool (decide (a<s∧s<mid))∧wx=wc)
    case first=>
     by_cases q1:a<s
     ·by_cases q2:s<mid
      ·have q3:decide (a<s∧s<mid)=true:=decide_eq_true ⟨q1,q2⟩
       go_wp2
       go_meet
       exact⟨by rw[q3],rfl⟩
      ·have q3:decide (a<s∧s<mid)=false:=decide_eq_false fun h=>q2 h.2
       go_wp2
       go_meet
       exact⟨by rw[q3],rfl⟩
     ·have q3:decide (a<s∧s<mid)=false:=decide_eq_false fun h=>q1 h.1
      go_wp2
      go_meet
      exact⟨by rw[q3],rfl⟩
    case rest=>
    obtain⟨rfl,rfl⟩:=hcut
    go_upto_if 158 with(fail)
    go_cut [] (fun wx=>∃e1,SU enc k g T cs (W.alloc (se f lb sf sb)) e1 wx∧PermIn a mid e e1∧SortedIn lt a mid e1)
    case first=>
     by_cases q:a<s∧s<mid
     ·have q3:decide (a<s∧s<mid)=true:=decide_eq_true q
      have hc:=HI.out e _ hed HE1.out.self (HL.out e _ HE1.out) a s mid (by omega) q.1 q.2 (by omega) G1.out G2.out
      go_wp2_with (go_at_call 340;refine hc.mono ?_;rintro e' w' ⟨rfl,hE⟩)
      go_meet
      obtain⟨e1,Kn,Hv,MM⟩:=hE
      exact⟨e1,HE1.out.trans Kn,Hv,MM⟩
     ·have q3:decide (a<s∧s<mid)=false:=decide_eq_false q
      go_wp2
      go_meet
      refine⟨e,HE1.out,permIn_refl _ _ _,?_⟩
      by_cases q4:a<s
      ·exact uI G1.out (V3 _) (by omega)
      ·exact uI G2.out (by omega) (V3 _)
    case rest=>
    obtain⟨e1,hF1,hF2,hF3⟩:=hcut
    have ZeV:e1.size=n:=hF2.1.trans hed
    have g3:SortedIn lt mid t e1:=xT G3.out fun k h1 h2=>hF2.2.1 k (.inr h1)
    have g4:SortedIn lt t b e1:=xT G4.out fun k h1 h2=>hF2.2.1 k (.inr (by omega))
    have c0':wc.cell? ⟨W.heap.size,0,none⟩=some (.func (.func f) #[] lb):=by rw[hF1.AL (by simp) (by omega)];simp
    have c1':wc.cell? ⟨W.heap.size,1,none⟩=some (.func (.func sf) #[] sb):=by rw[hF1.AL (by simp) (by omega)];simp
    have K3:Hid (SortedIn lt mid t e1):=g3
    have K4:Hid (SortedIn lt t b e1):=g4
    have HF1:Hid (SU enc k g T cs (W.alloc (se f lb sf sb)) e1 wc):=hF1
    have HF2:Hid (PermIn a mid e e1):=hF2
    have HF3:Hid (SortedIn lt a mid e1):=hF3
    clear g3 g4 hF1 hF2 hF3
    have fin:∀w' e2,SU enc k g T cs (W.alloc (se f lb sf sb)) e2 w'→PermIn mid b e1 e2→SortedIn lt mid b e2→∃e,SU enc k g T cs W e w'∧PermIn a b d e∧SortedIn lt a b e:=fun w' e2 h1 h2 h3=>by
     obtain⟨x1,x2⟩:=glue hO (by omega) (by omega) (by omega) HF2.out h2 HF3.out h3 G5.out
     exact⟨e2,HB.out.trans h1,permIn_trans _ _ _ _ _ HE2.out x1,x2⟩
    have FIN:Hid _:=fin
    clear fin
    go_upto_region 44 with(fail)
    go_cut [171] (fun ZfB wx=>ZfB=.bool (decide (mid<t∧t<b))∧wx=wc)
    case first=>
     by_cases q1:mid<t
     ·by_cases q2:t<b
      ·have q3:decide (mid<t∧t<b)=true:=decide_eq_true ⟨q1,q2⟩
       go_wp2
       go_meet
       exact⟨by rw[q3],rfl⟩
      ·have q3:decide (mid<t∧t<b)=false:=decide_eq_false fun h=>q2 h.2
       go_wp2
       go_meet
       exact⟨by rw[q3],rfl⟩
     ·have q3:decide (mid<t∧t<b)=false:=decide_eq_false fun h=>q1 h.1
      go_wp2
      go_meet
      exact⟨by rw[q3],rfl⟩
    case rest=>
    obtain⟨rfl,rfl⟩:=hcut
    by_cases q:mid<t∧t<b
    ·have q3:decide (mid<t∧t<b)=true:=decide_eq_true q
     have hc:=HI.out e1 _ ZeV HF1.out.self (HL.out e1 _ HF1.out) mid t b (by omega) q.1 q.2 hb K3.out K4.out
     go_wp2_with (go_at_call 340;refine hc.mono ?_;rintro e' w' ⟨rfl,hE⟩)
     go_end0
     obtain⟨e2,Kn,Hv,MM⟩:=hE
     exact⟨rfl,FIN.out _ e2 (HF1.out.trans Kn) Hv MM⟩
    ·have q3:decide (mid<t∧t<b)=false:=decide_eq_false q
     go_wp2
     go_end0
     refine⟨rfl,FIN.out _ e1 HF1.out (permIn_refl _ _ _) ?_⟩
     by_cases q4:mid<t
     ·exact uI K3.out (V3 _) (by omega)
     ·exact uI K4.out (by omega) (V3 _)
end
end Go.Proofs.YtbalgkakkoocjaaGreat
