/- A part of the proof of the statement in the last file of this claim: texts on the language of the program and on its functions. No condition. -/
import Derived.Test.YtmcdjilbkmhfoaaGreatCFnRetry8
import Derived.Test.YtmcdjilbkmhfoaaGreatCFnWorldKeeps1
import Derived.Sort.LotA
import Derived.Test.YtmcdjilbkmhfoaaGreatProg
import Derived.Shelf.SlSortFuncK.RowK2
import Derived.Shelf.GgSortFunc.SmallK
import Derived.Deep.DeepCutAuto
import Derived.Test.YtmcdjilbkmhfoaaGreatCFnWorldKeeps5
import Derived.Test.YtmcdjilbkmhfoaaGreatCFnWorldKeeps4
import Derived.Test.YtmcdjilbkmhfoaaGreatCFnWorldKeeps6
import Derived.Shelf.GgSortMore.Stable
import Derived.Test.YtmcdjilbkmhfoaaGreatCFnRetry7
namespace Go.Proofs.YtmcdjilbkmhfoaaGreat
set_option maxRecDepth 10000
open Go.RowKit
set_option linter.unusedVariables false
set_option linter.unusedSimpArgs false
set_option linter.unusedSectionVars false
inductive Zmy (n:Za) (l:List Zc) (closed:List Ze) (weight:Int) (from_:ByteArray) (at_:Int):Nat→ByteArray→Int→List Ze→Prop
 | nil {q:ByteArray} {e:Int} (h0:0≤idxV (Zb n) q) (hg:getI (Z6 n l closed weight (idxV (Zb n) from_) at_ 0) (idxV (Zb n) q)=some e) (he:0≤e):Zmy n l closed weight from_ at_ 0 q e []
 | snoc {k:Nat} {y:YLeg} {u z d e:Int} {i:Nat} {way:List Ze} (hp:Zmy n l closed weight from_ at_ k y.from_ u way) (c1:n.legs[i]?=some y)
  (hg:getI (Z6 n l closed weight (idxV (Zb n) from_) at_ (k+1)) (idxV (Zb n) y.to_)=some e)
  (c5:Zag n u (decide (idxV (Zb n) y.from_=idxV (Zb n) from_))=some z) (c6:Z1 n l closed (i:Int) z weight=some d) (c7:¬ d<0) (c8:Zq n ⟨(i:Int),d⟩=some e):Zmy n l closed weight from_ at_ (k+1) y.to_ e (way++[⟨(i:Int),d⟩])
section
variable {n:Za} (hf:Z0 n)
include hf
theorem ZwM (hn:Zi n=some true) {l:List Zc} (hl:l.length≤1048576) {closed:List Ze} (hc:closed.length≤1048576) (weight:Int) {from_:ByteArray} (at_:Int)
 (hC:ZZ n l=true∧0≤idxV (Zb n) from_∧at_≤100000∧1≤weight):
 ∀ (k:Nat) (q0:ByteArray) (e:Int) (tail:List Ze),0≤idxV (Zb n) q0→getI (Z6 n l closed weight (idxV (Zb n) from_) at_ k) (idxV (Zb n) q0)=some e→0≤e→(k=0∨¬ getI (Z6 n l closed weight (idxV (Zb n) from_) at_ (k-1)) (idxV (Zb n) q0)=some e)→tail.length+k≤(Zb n).length→∀ N,k<N→
  ∃ way,Zj (Zat n l closed from_ at_ weight (Zb n) (idxV (Zb n) from_)) N (idxV (Zb n) q0,e,(k:Int),tail)=some (way++tail)∧Zmy n l closed weight from_ at_ k q0 e way:=by
 have hlg:=Zff hn
 have hp:(Zb n).length≤40:=by have:=Zaz n; omega
 intro k
 induction k with
 | zero=>
  intro q0 e tail hx hg he hnot hlen N hN
  obtain ⟨N,rfl⟩:∃ M,N=M+1:=⟨N-1,by omega⟩
  exact ⟨[],by unfold Zj Zat; simp,.nil hx hg he⟩
 | succ k ih=>
  intro q0 e tail hx hg he hnot hlen N hN
  obtain ⟨N,rfl⟩:∃ M,N=M+1:=⟨N-1,by omega⟩
  have hbl:=Zfb hf hl hc weight (idxV (Zb n) from_) at_
  have hnx:¬ getI (Z6 n l closed weight (idxV (Zb n) from_) at_ k) (idxV (Zb n) q0)=some e:=by
   rcases hnot with h | h
   ·omega
   ·exact h
  have hcd:Cand n l closed weight (idxV (Zb n) from_) (Z6 n l closed weight (idxV (Zb n) from_) at_ k) (idxV (Zb n) q0) e:=by
   rcases (ZgF hf hl hc weight (idxV (Zb n) from_) at_ k).2 _ e hg with h | h
   ·exact absurd h hnx
   ·exact h
  have hxl:=(Ze2 (Zb n) q0).2
  obtain ⟨t,hs,hi,i,y,d,u,z,rfl,c1,c2,c3,c4,c5,c6,c7,c8⟩:=Zm7 hf hl hc weight (hbl k) (q0:=q0) rfl ⟨hx,hxl⟩ e hcd
  have hfb:=ZfR hf hl hc weight at_ hC (k:=k) (by omega)
  have hw:w64 (((k+1:Nat):Int)-1)=(k:Int):=by rw [Zo (by omega)]; omega
  have hy:getI n.legs (i:Int)=some y:=by rw [Zn]; exact c1
  have ha1:chk (ZQ (([⟨(i:Int),d⟩]:List Ze).length+tail.length) 16)=some ():=ZcC (by simp only [List.length_cons,List.length_nil]; omega) (by omega)
  obtain ⟨m1,m2⟩:=Zf0 (List.mem_of_getElem? c1)
  have a0:=ZeW m1
  obtain ⟨way,q1,q2⟩:=ih y.from_ u ([⟨(i:Int),d⟩]++tail) a0 c3 (by omega) (by
   by_cases hk0:k=0
   ·exact .inl hk0
   ·refine .inr fun hu=>hnx ?_
    obtain ⟨k',rfl⟩:∃ k',k=k'+1:=⟨k-1,by omega⟩
    have hb1:=(ZiM hf hn hl hc weight (idxV (Zb n) from_) at_ k').2 _ e ⟨i,y,d,u,z,c1,c2,hu,c4,c5,c6,c7,c8⟩
    obtain ⟨w,w1,w2,w3⟩:=hb1
    obtain ⟨w',v1,v2,v3⟩:=(ZiM hf hn hl hc weight (idxV (Zb n) from_) at_ (k'+1)).1 _ w w1 w2
    rw [hg] at v1
    obtain rfl:=Option.some.inj v1
    rw [w1,show w=e by omega]) (by simp only [List.length_append,List.length_cons,List.length_nil]; omega) N (by omega)
  have hq:y.to_=q0:=by
   have g1:=ZfZ (ZeW m2)
   have g2:=ZfZ hx
   rw [c2,g2] at g1
   exact (Option.some.inj g1).symm
  refine ⟨way++[⟨(i:Int),d⟩],?_,?_⟩
  ·have hb:Zat n l closed from_ at_ weight (Zb n) (idxV (Zb n) from_) (idxV (Zb n) q0,e,((k+1:Nat):Int),tail)=some (.inl (idxV (Zb n) y.from_,u,(k:Int),[⟨(i:Int),d⟩]++tail)):=by
    unfold Zat
    simp only [decide_eq_true (show (0:Int)<((k+1:Nat):Int) by omega),cond_true,hw,hfb,Option.bind_some,hs,ha1,hy,Zgk hf,c3]
   unfold Zj
   rw [hb,List.append_assoc]
   exact q1
  ·subst hq
   exact .snoc q2 c1 hg c5 c6 c7 c8
omit hf in
theorem Zlj {t:Ze} (ht:ZbJ n t=true):∀ (way:List Ze) (p:ByteArray) (a:Int),ZbG n p a way→(way=[]→ZbL n t=p∧a≤ZM n t)→(∀ t',way.getLast?=some t'→ZbL n t=ZL n t'∧Z7 n t'+n.change≤ZM n t)→ZbG n p a (way++[t])
 | [],p,a,_,h1,_=>⟨ht,(h1 rfl).1,(h1 rfl).2,trivial⟩
 | x::way,p,a,hc,h1,h2=>by
  obtain ⟨c1,c2,c3,c4⟩:=hc
  refine ⟨c1,c2,c3,Zlj ht way _ _ c4 (fun hw=>?_) fun t' h=>?_⟩
  ·subst hw
   exact h2 x rfl
  ·cases way with
   | nil=>simp at h
   | cons y ys=>exact h2 t' (by rw [List.getLast?_cons_cons]; exact h)
omit hf in
theorem Zkx:∀ (m:Nat) (l:List Nat),l.Nodup→(∀ x∈l,x<m)→l.length≤m
 | 0,l,_,h=>by
  cases l with
  | nil=>simp
  | cons x xs=>have:=h x (by simp); omega
 | m+1,l,hn,h=>by
  have h1:=Zkx m (l.erase m) (hn.erase m) fun x hx=>by
   have h2:=(List.Nodup.mem_erase_iff hn).1 hx
   have:=h x h2.2
   have h3:=h2.1
   omega
  have h4:l.length≤(l.erase m).length+1:=by rw [List.length_erase]; split <;> omega
  omega
section
variable (hn:Zi n=some true) {l:List Zc} (hl:l.length≤1048576) {closed:List Ze} (hc:closed.length≤1048576) (weight:Int) {from_:ByteArray} (at_:Int) (hfr:0≤idxV (Zb n) from_) (hat:at_≤100000)
include hn hl hc hfr hat
omit hfr hat in
theorem Zhd (f:Int) {x u:Int} {j:Nat} (hg:getI (Z6 n l closed weight f at_ j) x=some u) (h0:0≤u):∀ d,LeAt (Z6 n l closed weight f at_ (j+d)) x u
 | 0=>⟨u,hg,h0,Int.le_refl _⟩
 | d+1=>by
  obtain ⟨w,w1,w2,w3⟩:=Zhd f hg h0 d
  obtain ⟨w',v1,v2,v3⟩:=(ZiM hf hn hl hc weight f at_ (j+d)).1 x w w1 w2
  exact ⟨w',v1,v2,by omega⟩
structure Zxz (n:Za) (l:List Zc) (closed:List Ze) (weight:Int) (from_:ByteArray) (at_:Int) (k:Nat) (q:ByteArray) (e:Int) (way:List Ze):Prop where
 time:0≤e∧e≤100000
 seen:∀ p∈from_::way.map (ZL n),∃ (j:Nat) (u:Int),j≤k∧getI (Z6 n l closed weight (idxV (Zb n) from_) at_ j) (idxV (Zb n) p)=some u∧0≤u∧u≤e
 nodup:(from_::way.map (ZL n)).Nodup
 last:(from_::way.map (ZL n)).getLast?=some q
 chain:ZbG n from_ (if 0 > at_ then 0 else at_) way
 ends:way=[]∧e=(if 0 > at_ then 0 else at_)∨∃ t,way.getLast?=some t∧Z7 n t=e
 found:∀ t∈way,Zaq closed t=some false∧∃ y q,getI n.legs t.leg=some y∧Zap l t=some q∧weight≤w64 (y.room-q)
 idx:0≤idxV (Zb n) q
theorem ZwN {k:Nat} {q:ByteArray} {e:Int} {way:List Ze} (h:Zmy n l closed weight from_ at_ k q e way):Zxz n l closed weight from_ at_ k q e way:=by
 have hlg:=Zff hn
 have hp:(Zb n).length≤40:=by have:=Zaz n; omega
 have hlt:=(Ze2 (Zb n) from_).2
 induction h with
 | nil h0 hg he=>
  rename_i q e
  have hb:Z6 n l closed weight (idxV (Zb n) from_) at_ 0=(List.replicate (Zb n).length (-1:Int)).set (idxV (Zb n) from_).toNat (if 0 > at_ then 0 else at_):=by
   unfold Z6; rw [Zl1 hf (by omega) _ ⟨hfr,hlt⟩]; rfl
  rw [hb] at hg
  have hq:idxV (Zb n) q=idxV (Zb n) from_∧e=(if 0 > at_ then 0 else at_):=by
   rcases Zpo hfr hg with ⟨a,b⟩ | h
   ·exact ⟨a,b⟩
   ·exfalso
    obtain ⟨_,h2⟩:=Zdb h
    have:=List.mem_of_getElem? h2
    have:=List.eq_of_mem_replicate this
    omega
  have hqf:from_=q:=by
   have g1:=ZfZ h0
   have g2:=ZfZ hfr
   rw [hq.1,g2] at g1
   exact Option.some.inj g1
  subst hqf
  have he2:=hq.2
  refine ⟨⟨he,by rw [he2]; split <;> omega⟩,fun p hp=>?_,by simp,rfl,trivial,.inl ⟨rfl,he2⟩,fun t ht=>by simp at ht,hfr⟩
  have:p=from_:=by simpa using hp
  subst this
  exact ⟨0,e,Nat.le_refl _,by rw [hb]; exact hg,he,Int.le_refl _⟩
 | snoc hpt c1 hg c5 c6 c7 c8 ih=>
  rename_i k y u z d e i way
  have hleg:getI n.legs (i:Int)=some y:=by rw [Zn]; exact c1
  have hfo:ZvE n l closed z weight ⟨(i:Int),d⟩:=by
   rcases ZpG hf c6 with h | h
   ·omega
   ·exact h
  obtain ⟨_,t2,t3,t4,t5⟩:=ZI hf hn hfo.trip
  have hee:Z7 n ⟨(i:Int),d⟩=e:=by rw [c8] at t2; exact (Option.some.inj t2).symm
  have hto:ZL n ⟨(i:Int),d⟩=y.to_:=by unfold ZL; rw [hleg]; rfl
  have hfrom:ZbL n ⟨(i:Int),d⟩=y.from_:=by unfold ZbL; rw [hleg]; rfl
  obtain ⟨n0,n1⟩:=ZbB hn
  have hz:z=if idxV (Zb n) y.from_=idxV (Zb n) from_ then u else u+n.change:=by
   unfold Zag at c5
   by_cases h:idxV (Zb n) y.from_=idxV (Zb n) from_
   ·rw [decide_eq_true h,cond_true] at c5; rw [if_pos h]; exact (Option.some.inj c5).symm
   ·rw [decide_eq_false h,cond_false,Zo (by have:=ih.time; omega)] at c5; rw [if_neg h]; exact (Option.some.inj c5).symm
  have hzu:u≤z:=by rw [hz]; split <;> omega
  have hst:=hfo.start
  have hue:u<e:=by omega
  obtain ⟨m1,m2⟩:=Zf0 (List.mem_of_getElem? c1)
  have hnew:∀ p∈from_::way.map (ZL n),p≠y.to_:=fun p hp heq=>by
   obtain ⟨j,u',hj,hg',h0,hu⟩:=ih.seen p hp
   rw [heq] at hg'
   obtain ⟨w,w1,w2,w3⟩:=Zhd hf hn hl hc weight at_ _ hg' h0 (k+1-j)
   rw [show j+(k+1-j)=k+1 by omega,hg] at w1
   have:=Option.some.inj w1
   omega
  have happ:from_::(way++[(⟨(i:Int),d⟩:Ze)]).map (ZL n)=(from_::way.map (ZL n))++[y.to_]:=by
   rw [List.map_append,List.map_cons,List.map_nil,hto]; rfl
  refine ⟨⟨by omega,by omega⟩,fun p hp=>?_,?_,?_,?_,.inr ⟨_,List.getLast?_concat,hee⟩,fun t ht=>?_,ZeW m2⟩
  ·rw [happ] at hp
   rcases List.mem_append.1 hp with hp | hp
   ·obtain ⟨j,u',hj,hg',h0,hu⟩:=ih.seen p hp
    exact ⟨j,u',by omega,hg',h0,by omega⟩
   ·obtain rfl:=List.mem_singleton.1 hp
    exact ⟨k+1,e,Nat.le_refl _,hg,by omega,Int.le_refl _⟩
  ·rw [happ,List.nodup_append]
   exact ⟨ih.nodup,by simp,fun a ha b hb=>by rw [List.mem_singleton] at hb; rw [hb]; exact hnew a ha⟩
  ·rw [happ]; exact List.getLast?_concat
  ·refine Zlj hfo.trip way _ _ ih.chain (fun hw=>?_) fun t' ht'=>?_
   ·subst hw
    have hq:from_=y.from_:=by have:=ih.last; simpa using this
    rcases ih.ends with ⟨_,he⟩ | ⟨t,ht,_⟩
    ·exact ⟨by rw [hfrom,hq],by omega⟩
    ·simp at ht
   ·have hmem:t'∈way:=List.mem_of_getLast? ht'
    have hlast:ZL n t'=y.from_:=by
     have h1:=ih.last
     cases way with
     | nil=>simp at ht'
     | cons x xs=>
      rw [List.map_cons,List.getLast?_cons_cons,← List.map_cons,List.getLast?_map,ht'] at h1
      exact Option.some.inj h1
    have hne:¬ idxV (Zb n) y.from_=idxV (Zb n) from_:=fun he=>by
     have g1:=ZfZ (ZeW m1)
     have g2:=ZfZ hfr
     rw [he,g2] at g1
     have hff:from_=y.from_:=Option.some.inj g1
     have hnd:=ih.nodup
     rw [List.nodup_cons] at hnd
     exact hnd.1 (by rw [hff,← hlast]; exact List.mem_map_of_mem hmem)
    rw [if_neg hne] at hz
    rcases ih.ends with ⟨hw,_⟩ | ⟨t'',ht'',he''⟩
    ·rw [hw] at ht'; simp at ht'
    ·rw [ht'] at ht''
     obtain rfl:=Option.some.inj ht''
     exact ⟨by rw [hfrom,hlast],by rw [he'']; omega⟩
  ·rcases List.mem_append.1 ht with ht | ht
   ·exact ih.found t ht
   ·obtain rfl:=List.mem_singleton.1 ht
    exact ⟨hfo.open_,hfo.room⟩
end
end
end Go.Proofs.YtmcdjilbkmhfoaaGreat
namespace Go.Proofs.YtmcdjilbkmhfoaaGreat
set_option maxRecDepth 10000
open Go.Sort
set_option linter.unusedVariables false
set_option linter.unusedSimpArgs false
section
variable {α:Type} [Inhabited α]
theorem gx {d:Array α} {x y:Nat} (h:x=y):d[x]! = d[y]!:=by rw [h]
def swpR (d:Array α) (a b:Nat):Nat→Array α
 | 0=>d
 | n+1=>swp (swpR d a b n) (a+n) (b+n)
theorem ZfF (d:Array α) (a b:Nat):∀ n,(swpR d a b n).size=d.size
 | 0=>rfl
 | n+1=>by rw [swpR,size_swp,ZfF d a b n]
theorem ZiF (d:Array α) {a b lo hi:Nat} (h1:lo≤a):∀ n,a+n≤hi→lo≤b→b+n≤hi→hi≤d.size→PermIn lo hi d (swpR d a b n)
 | 0,_,_,_,_=>permIn_refl _ _ _
 | n+1,h2,h3,h4,h5=>permIn_trans _ _ _ _ _ (ZiF d h1 n (by omega) h3 (by omega) h5) (swp_permIn _ _ _ _ _ (by omega) (by omega) (by omega) (by omega) (by rw [ZfF]; omega))
theorem ZjG (d:Array α) {a b:Nat}:∀ n,a+n≤b→b+n≤d.size→∀ k,(swpR d a b n)[k]! = if a≤k∧k<a+n then d[b+(k-a)]! else if b≤k∧k<b+n then d[a+(k-b)]! else d[k]!
 | 0,_,_,k=>by rw [if_neg (by omega),if_neg (by omega)]; rfl
 | n+1,h1,h2,k=>by
  have ih:=ZjG d (a:=a) (b:=b) n (by omega) (by omega)
  rw [swpR,swp_get (swpR d a b n) (i:=a+n) (j:=b+n) (by rw [ZfF]; omega) (by rw [ZfF]; omega),ih,ih,ih]
  repeat' split
  all_goals first | (exfalso; omega) | exact gx (by omega)
def rotF (d:Array α) (a m b k:Nat):α:=if a≤k∧k<a+(b-m) then d[m+(k-a)]! else if a+(b-m)≤k∧k<b then d[k-(b-m)]! else d[k]!
theorem Zw3 (e:Array α) {m i j:Nat} (h:j<i) (hi:i≤m) (hs:m+j≤e.size) (k:Nat):rotF (swpR e (m-i) m j) (m-i+j) m (m+j) k=rotF e (m-i) m (m+j) k:=by
 unfold rotF
 simp only [ZjG e (a:=m-i) (b:=m) j (by omega) (by omega)]
 repeat' split
 all_goals first | (exfalso; omega) | exact gx (by omega)
theorem Zw4 (e:Array α) {m i j:Nat} (h:i<j) (hi:i≤m) (hs:m+j≤e.size) (k:Nat):rotF (swpR e (m-i) (m+j-i) i) (m-i) m (m+j-i) k=rotF e (m-i) m (m+j) k:=by
 unfold rotF
 simp only [ZjG e (a:=m-i) (b:=m+j-i) i (by omega) (by omega)]
 repeat' split
 all_goals first | (exfalso; omega) | exact gx (by omega)
theorem Zw2 (e:Array α) {m i:Nat} (hi:i≤m) (hs:m+i≤e.size) (k:Nat):(swpR e (m-i) m i)[k]! = rotF e (m-i) m (m+i) k:=by
 unfold rotF
 rw [ZjG e i (by omega) (by omega)]
 repeat' split
 all_goals first | (exfalso; omega) | exact gx (by omega)
theorem ZkD (d:Array α) {a m b:Nat} (h:m≤a∨b≤m) (hab:a≤m) (hb:m≤b) (k:Nat):d[k]! = rotF d a m b k:=by
 unfold rotF
 repeat' split
 all_goals first | (exfalso; omega) | exact gx (by omega)
def shU (d:Array α) (a:Nat):Nat→Array α
 | 0=>d
 | n+1=>swp (shU d a n) (a+n) (a+n+1)
theorem Zg6 (d:Array α) (a:Nat):∀ n,(shU d a n).size=d.size
 | 0=>rfl
 | n+1=>by rw [shU,size_swp,Zg6 d a n]
theorem ZpY (d:Array α) {a hi:Nat}:∀ n,a+n<hi→hi≤d.size→PermIn a hi d (shU d a n)
 | 0,_,_=>permIn_refl _ _ _
 | n+1,h2,h5=>permIn_trans _ _ _ _ _ (ZpY d n (by omega) h5) (swp_permIn _ _ _ _ _ (by omega) (by omega) (by omega) (by omega) (by rw [Zg6]; omega))
theorem Zte (d:Array α) {a:Nat}:∀ n,a+n<d.size→∀ k,(shU d a n)[k]! = rotF d a (a+1) (a+1+n) k
 | 0,h,k=>ZkD d (.inr (by omega)) (by omega) (by omega) k
 | n+1,h,k=>by
  have ih:=Zte d (a:=a) n (by omega)
  rw [shU,swp_get (shU d a n) (i:=a+n) (j:=a+n+1) (by rw [Zg6]; omega) (by rw [Zg6]; omega),ih,ih,ih]
  unfold rotF
  repeat' split
  all_goals first | (exfalso; omega) | exact gx (by omega)
def shD (d:Array α) (m:Nat):Nat→Array α
 | 0=>d
 | n+1=>swp (shD d m n) (m-n) (m-n-1)
theorem Zg5 (d:Array α) (m:Nat):∀ n,(shD d m n).size=d.size
 | 0=>rfl
 | n+1=>by rw [shD,size_swp,Zg5 d m n]
theorem ZpX (d:Array α) {m lo:Nat}:∀ n,lo+n≤m→m<d.size→PermIn lo (m+1) d (shD d m n)
 | 0,_,_=>permIn_refl _ _ _
 | n+1,h2,h5=>permIn_trans _ _ _ _ _ (ZpX d n (by omega) h5) (swp_permIn _ _ _ _ _ (by omega) (by omega) (by omega) (by omega) (by rw [Zg5]; omega))
theorem Ztd (d:Array α) {m:Nat}:∀ n,n≤m→m<d.size→∀ k,(shD d m n)[k]! = rotF d (m-n) m (m+1) k
 | 0,h,h',k=>ZkD d (.inl (by omega)) (by omega) (by omega) k
 | n+1,h,h',k=>by
  have ih:=Ztd d (m:=m) n (by omega) h'
  rw [shD,swp_get (shD d m n) (i:=m-n) (j:=m-n-1) (by rw [Zg5]; omega) (by rw [Zg5]; omega),ih,ih,ih]
  unfold rotF
  repeat' split
  all_goals first | (exfalso; omega) | exact gx (by omega)
variable {lt:α→α→Bool}
theorem ZhV (hO:SWO lt) {a b:Nat} {d:Array α} (h:SortedIn lt a b d) {i j:Nat} (h1:a≤i) (h2:i≤j) (h3:j<b):lt d[j]! d[i]! = false:=by
 rcases Nat.lt_or_ge i j with h4 | h4
 ·exact h i j h1 h4 h3
 ·have:i=j:=by omega
  subst this; exact hO.irrefl _
theorem Zia {a b a' b':Nat} {d:Array α} (h:SortedIn lt a b d) (h1:a≤a') (h2:b'≤b):SortedIn lt a' b' d:=fun i j hi hij hj=>h i j (by omega) hij (by omega)
theorem ZkO {a b:Nat} {d e:Array α} (h:SortedIn lt a b d) (he:∀ k,a≤k→k<b→e[k]! = d[k]!):SortedIn lt a b e:=fun i j hi hij hj=>by
 rw [he i hi (by omega),he j (by omega) hj]; exact h i j hi hij hj
theorem Ztm {a b:Nat} {d:Array α} (h:b≤a+1):SortedIn lt a b d:=fun i j hi hij hj=>by omega
theorem Zyh (hO:SWO lt) {a m b s t mid:Nat} {d e:Array α} (h1:SortedIn lt a m d) (h2:SortedIn lt m b d) (hs:a≤s∧s≤m) (ht:m≤t∧t≤b) (hmid:s+(t-m)=mid)
 (c1:a<s→t<b→lt d[t]! d[s-1]! = false) (c2:s<m→m<t→lt d[t-1]! d[s]! = true) (hr:∀ k,e[k]! = rotF d s m t k):
 SortedIn lt a s e∧SortedIn lt s mid e∧SortedIn lt mid t e∧SortedIn lt t b e∧∀ i j,a≤i→i<mid→mid≤j→j<b→lt e[j]! e[i]! = false:=by
 have g1:∀ k,k<s→e[k]! = d[k]!:=fun k h=>by rw [hr]; unfold rotF; rw [if_neg (by omega),if_neg (by omega)]
 have g2:∀ k,s≤k→k<mid→e[k]! = d[m+(k-s)]!:=fun k h h'=>by rw [hr]; unfold rotF; rw [if_pos (by omega)]
 have g3:∀ k,mid≤k→k<t→e[k]! = d[k-(t-m)]!:=fun k h h'=>by rw [hr]; unfold rotF; rw [if_neg (by omega),if_pos (by omega)]
 have g4:∀ k,t≤k→e[k]! = d[k]!:=fun k h=>by rw [hr]; unfold rotF; rw [if_neg (by omega),if_neg (by omega)]
 refine ⟨fun i j hi hij hj=>?_,fun i j hi hij hj=>?_,fun i j hi hij hj=>?_,fun i j hi hij hj=>?_,fun i j hi hi' hj hj'=>?_⟩
 ·rw [g1 i (by omega),g1 j hj]; exact h1 i j hi hij (by omega)
 ·rw [g2 i hi (by omega),g2 j (by omega) hj]; exact h2 _ _ (by omega) (by omega) (by omega)
 ·rw [g3 i hi (by omega),g3 j (by omega) hj]; exact h1 _ _ (by omega) (by omega) (by omega)
 ·rw [g4 i hi,g4 j (by omega)]; exact h2 i j (by omega) hij hj
 ·rcases Nat.lt_or_ge i s with x | x <;> rcases Nat.lt_or_ge j t with y | y
  ·rw [g1 i x,g3 j hj y]; exact h1 _ _ hi (by omega) (by omega)
  ·rw [g1 i x,g4 j y]
   have a1:=ZhV hO h2 (i:=t) (j:=j) ht.1 y hj'
   have a2:=c1 (by omega) (by omega)
   have a3:=ZhV hO h1 (i:=i) (j:=s-1) hi (by omega) (by omega)
   exact hO.ntrans _ _ _ (hO.ntrans _ _ _ a1 a2) a3
  ·rw [g2 i x hi',g3 j hj y]
   have a1:=ZhV hO h2 (i:=m+(i-s)) (j:=t-1) (by omega) (by omega) (by omega)
   have a2:=c2 (by omega) (by omega)
   have a3:=ZhV hO h1 (i:=s) (j:=j-(t-m)) hs.1 (by omega) (by omega)
   cases hv:lt d[j-(t-m)]! d[m+(i-s)]! with
   | false=>rfl
   | true=>
    cases hw:lt d[j-(t-m)]! d[t-1]! with
    | false=>rw [hO.ntrans _ _ _ hw a1] at hv; cases hv
    | true=>rw [hO.trans _ _ _ hw a2] at a3; cases a3
  ·rw [g2 i x hi',g4 j y]; exact h2 _ _ (by omega) (by omega) hj'
theorem glue (hO:SWO lt) {a mid b:Nat} {e e1 e2:Array α} (hb:b≤e.size) (ha:a≤mid) (hm:mid≤b) (p1:PermIn a mid e e1) (p2:PermIn mid b e1 e2) (s1:SortedIn lt a mid e1) (s2:SortedIn lt mid b e2)
 (hc:∀ i j,a≤i→i<mid→mid≤j→j<b→lt e[j]! e[i]! = false):PermIn a b e e2∧SortedIn lt a b e2:=by
 have z1:=p1.1
 have z2:=p2.1
 refine ⟨permIn_trans _ _ _ _ _ (permIn_mono _ _ _ _ _ _ (Nat.le_refl _) hm hb p1) (permIn_mono _ _ _ _ _ _ ha (Nat.le_refl _) (by omega) p2),fun i j hi hij hj=>?_⟩
 have k1:∀ i j,a≤i→i<mid→mid≤j→j<b→lt e1[j]! e1[i]! = false:=fun i j hi hi' hj hj'=>by
  rw [p1.2.1 j (.inr hj)]
  exact permIn_all e e1 a mid (fun x=>lt e[j]! x=false) (by omega) p1 (fun i h h'=>hc i j h h' hj hj') i hi hi'
 have k2:∀ i j,a≤i→i<mid→mid≤j→j<b→lt e2[j]! e2[i]! = false:=fun i j hi hi' hj hj'=>by
  rw [p2.2.1 i (.inl hi')]
  exact permIn_all e1 e2 mid b (fun y=>lt y e1[i]! = false) (by omega) p2 (fun j h h'=>k1 i j hi hi' h h') j hj hj'
 rcases Nat.lt_or_ge i mid with x | x
 ·rcases Nat.lt_or_ge j mid with y | y
  ·rw [p2.2.1 i (.inl x),p2.2.1 j (.inl y)]; exact s1 i j hi hij y
  ·exact k2 i j hi x y hj
 ·exact s2 i j x hij hj
theorem Zum (hO:SWO lt) {a b i:Nat} {d e:Array α} (h:SortedIn lt (a+1) b d) (h1:a+1≤i) (h2:i≤b) (c1:i=a+1∨lt d[i-1]! d[a]! = true) (c2:i=b∨lt d[i]! d[a]! = false) (hr:∀ k,e[k]! = rotF d a (a+1) i k):SortedIn lt a b e:=by
 have g1:∀ k,a≤k→k<i-1→e[k]! = d[k+1]!:=fun k h h'=>by rw [hr]; unfold rotF; rw [if_pos (by omega)]; exact gx (by omega)
 have g2:e[i-1]! = d[a]!:=by rw [hr]; unfold rotF; rw [if_neg (by omega),if_pos (by omega)]; exact gx (by omega)
 have g3:∀ k,i≤k→e[k]! = d[k]!:=fun k h=>by rw [hr]; unfold rotF; rw [if_neg (by omega),if_neg (by omega)]
 have lo:∀ p,a≤p→p<i-1→lt d[a]! d[p+1]! = false:=fun p h5 h6=>by
  rcases c1 with c1 | c1
  ·omega
  ·exact hO.ntrans _ _ _ (hO.asymmA c1) (ZhV hO h (i:=p+1) (j:=i-1) (by omega) (by omega) (by omega))
 have hi:∀ q,i≤q→q<b→lt d[q]! d[a]! = false:=fun q h5 h6=>by
  rcases c2 with c2 | c2
  ·omega
  ·exact hO.ntrans _ _ _ (ZhV hO h (i:=i) (j:=q) h1 h5 h6) c2
 intro p q hp hpq hq
 rcases Nat.lt_trichotomy p (i-1) with x | x | x
 ·rcases Nat.lt_trichotomy q (i-1) with y | y | y
  ·rw [g1 p hp x,g1 q (by omega) y]; exact h _ _ (by omega) (by omega) (by omega)
  ·rw [y,g2,g1 p hp x]; exact lo p hp x
  ·rw [g1 p hp x,g3 q (by omega)]; exact h _ _ (by omega) (by omega) hq
 ·rw [x,g2,g3 q (by omega)]; exact hi q (by omega) hq
 ·rw [g3 p (by omega),g3 q (by omega)]; exact h _ _ (by omega) hpq hq
theorem Zsa (hO:SWO lt) {a m i:Nat} {d e:Array α} (h:SortedIn lt a m d) (h1:a≤i) (h2:i≤m) (c1:i=a∨lt d[m]! d[i-1]! = false) (c2:i=m∨lt d[m]! d[i]! = true) (hr:∀ k,e[k]! = rotF d i m (m+1) k):SortedIn lt a (m+1) e:=by
 have g1:∀ k,k<i→e[k]! = d[k]!:=fun k h=>by rw [hr]; unfold rotF; rw [if_neg (by omega),if_neg (by omega)]
 have g2:e[i]! = d[m]!:=by rw [hr]; unfold rotF; rw [if_pos (by omega)]; exact gx (by omega)
 have g3:∀ k,i<k→k≤m→e[k]! = d[k-1]!:=fun k h h'=>by rw [hr]; unfold rotF; rw [if_neg (by omega),if_pos (by omega)]; exact gx (by omega)
 have lo:∀ p,a≤p→p<i→lt d[m]! d[p]! = false:=fun p h5 h6=>by
  rcases c1 with c1 | c1
  ·omega
  ·exact hO.ntrans _ _ _ c1 (ZhV hO h (i:=p) (j:=i-1) h5 (by omega) (by omega))
 have hi:∀ q,i<q→q≤m→lt d[q-1]! d[m]! = false:=fun q h5 h6=>by
  rcases c2 with c2 | c2
  ·omega
  ·exact hO.ntrans _ _ _ (ZhV hO h (i:=i) (j:=q-1) h1 (by omega) (by omega)) (hO.asymmA c2)
 intro p q hp hpq hq
 rcases Nat.lt_trichotomy p i with x | x | x
 ·rcases Nat.lt_trichotomy q i with y | y | y
  ·rw [g1 p x,g1 q y]; exact h _ _ hp hpq (by omega)
  ·rw [y,g2,g1 p x]; exact lo p hp x
  ·rw [g1 p x,g3 q y (by omega)]; exact ZhV hO h (by omega) (by omega) (by omega)
 ·rw [x,g2,g3 q (by omega) (by omega)]; exact hi q (by omega) (by omega)
 ·rw [g3 p x (by omega),g3 q (by omega) (by omega)]; exact ZhV hO h (by omega) (by omega) (by omega)
def Runs (lt:α→α→Bool) (bs n:Nat) (d:Array α):Prop:=∀ q,SortedIn lt (q*bs) (min (q*bs+bs) n) d
end
end Go.Proofs.YtmcdjilbkmhfoaaGreat
namespace Go.Proofs.YtmcdjilbkmhfoaaGreat
set_option maxRecDepth 10000
open Go.RowKit Go.Lib Go.Sort
set_option linter.unusedVariables false
set_option linter.unusedSimpArgs false
set_option linter.unusedSectionVars false
set_option maxRecDepth 100000
set_option maxHeartbeats 4000000
section
variable {α:Type} [Inhabited α] {enc:α→List Value} {k:Nat} {g:Nat} {T:TypeId} {cs:Nat}
structure SU (enc:α→List Value) (k:Nat) (g:Nat) (T:TypeId) (cs:Nat) (w0:World) (d:Array α) (W:World):Prop where
 up:UpO (fun b=>b=g) w0 W
 hold:HoldsK enc k W g 0 d
 row:∃ cells,W.heap[g]?=some (.cells cells T (0,0))∧cells.size=cs
theorem SU.lt {w0 W:World} {d:Array α} (h:SU enc k g T cs w0 d W):g<W.heap.size:=by
 obtain ⟨c,h1,_⟩:=h.row
 exact (Array.getElem?_eq_some_iff.1 h1).1
theorem SU.more {w0 W W':World} {d:Array α} (h:SU enc k g T cs w0 d W) (u:Up W W'):SU enc k g T cs w0 d W':=by
 have hl:=h.lt
 refine ⟨⟨u.os.trans h.up.os,u.tape.trans h.up.tape,u.output.trans h.up.output,Nat.le_trans h.up.size u.size,fun b hb hn=>(u.block b (Nat.lt_of_lt_of_le hb h.up.size)).trans (h.up.block b hb hn)⟩,fun j hj=>⟨(u.cell (p:=⟨g,0+j,none⟩) hl).trans (h.hold j hj).1,(u.frozen (p:=⟨g,0+j,none⟩) hl).trans (h.hold j hj).2⟩,?_⟩
 obtain ⟨c,h1,h2⟩:=h.row
 exact ⟨c,(u.block g hl).trans h1,h2⟩
theorem SU.trans {w0 W W':World} {d d':Array α} (h:SU enc k g T cs w0 d W) (h':SU enc k g T cs W d' W'):SU enc k g T cs w0 d' W':=⟨h.up.trans h'.up fun _ _ h=>h,h'.hold,h'.row⟩
theorem SU.self {w0 W:World} {d:Array α} (h:SU enc k g T cs w0 d W):SU enc k g T cs W d W:=⟨UpO.refl _ _,h.hold,h.row⟩
theorem SU.oth {w0 W:World} {d:Array α} (h:SU enc k g T cs w0 d W) {b o:Nat} (hb:b<w0.heap.size) (hn:b≠g):W.cell? ⟨b,o,none⟩=w0.cell? ⟨b,o,none⟩:=ZfQ (h.up.block b hb hn)
theorem SU.swap (hk:∀ x,(enc x).length=k) {w0 W:World} {d:Array α} (h:SU enc k g T cs w0 d W) {i j:Nat} (hi:i<d.size) (hj:j<d.size):SU enc k g T cs w0 (swp d i j) ((W.setCells g (i*k) (enc d[j]!)).setCells g (j*k) (enc d[i]!)):=by
 have e:=putRowK_swp enc k hk W g 0 d i j hi hj
 rw [putRowK_self enc k W g 0 d h.hold,Nat.zero_add,Nat.zero_add] at e
 rw [e]
 have hl:=h.lt
 refine ⟨h.up.trans (O':=fun b=>b=g) ⟨rfl,rfl,rfl,by rw [size_putRowK]; exact Nat.le_refl _,fun b hb hn=>?_⟩ fun _ _ h=>h,holdsK_putRowK enc k W g 0 d _ h.hold (size_swp _ _ _),?_⟩
 ·show (W.heap.modify g _)[b]?=_
  rw [Array.getElem?_modify,if_neg (fun e=>hn e.symm)]
 ·obtain ⟨c,h1,h2⟩:=h.row
  refine ⟨putCells id 0 (flatK enc k (swp d i j)) c,?_,?_⟩
  ·show (W.heap.modify g _)[g]?=_
   rw [Array.getElem?_modify,if_pos rfl,h1]
   rfl
  ·simp [putCells,h2]
def ZhW (f:Nat) (lb:Array Value) (enc:α→List Value) (k:Nat) (lt:α→α→Bool) (g:Nat) (T:TypeId) (cs n:Nat) (w0:World):Prop:=
 ∀ (d:Array α) (W:World),SU enc k g T cs w0 d W→d.size=n→∀ i j:Nat,i<n→j<n→Calls Tryz.prog f (#[.int .i64 i,.int .i64 j]++lb) W fun e w'=>e=.returned (.bool (lt d[i]! d[j]!))∧Up W w'
theorem ZhW.on {f:Nat} {lb:Array Value} {lt:α→α→Bool} {n:Nat} {w0 W:World} {d:Array α} (h:ZhW f lb enc k lt g T cs n w0) (hW:SU enc k g T cs w0 d W):ZhW f lb enc k lt g T cs n W:=fun d' W' h'=>h d' W' (hW.trans h')
abbrev LS (f:Nat) (lb:Array Value) (sf:Nat) (sb:Array Value):Value:=.agg #[.func (.func f) #[] lb,.func (.func sf) #[] sb]
abbrev LSo (f:Nat) (lb:Array Value) (sf:Nat) (sb:Array Value):Obj:=.cells #[.func (.func f) #[] lb,.func (.func sf) #[] sb] 245
variable (hk:∀ x,(enc x).length=k) (f:Nat) (lb:Array Value) (sf:Nat) (sb:Array Value) (n:Nat) (hn:n<1152921504606846976) (hswap:SwapSwapsK Tryz.prog sf sb enc k g 0 n)
include hk hn hswap
theorem Zxq {d:Array α} {W:World} (hd:d.size=n) (h0:SU enc k g T cs W d W) (a b m:Nat) (h1:a+m≤b) (h2:b+m≤n):
 Calls Tryz.prog 286 #[LS f lb sf sb,.int .i64 a,.int .i64 b,.int .i64 m] W fun e w'=>e=.returned (.tuple #[])∧SU enc k g T cs W (swpR d a b m) w':=by
 have hg:=h0.lt
 have hB:SU enc k g T cs W d (W.alloc (LSo f lb sf sb)):=h0.more (Up.al _ (Up.rfl' W))
 go_enter Tryz.func286,Tryz.ntmps286
 go_wp2
 go_loopw [8] (fun vi wr=>∃ i:Nat,vi=.int .i64 i∧i≤m∧SU enc k g T cs (W.alloc (LSo f lb sf sb)) (swpR d a b i) wr) (fun vi _=>m-(intOf vi).toNat)
 case atStart=>exact ⟨0,by go_num,by omega,hB.self⟩
 case round=>
  obtain ⟨i,rfl,him,hS⟩:=hrel
  have c1:wr.cell? ⟨W.heap.size,1,none⟩=some (.func (.func sf) #[] sb):=by rw [hS.oth (by simp) (by omega)]; simp
  have HS:Hid (SU enc k g T cs (W.alloc (LSo f lb sf sb)) (swpR d a b i) wr):=hS
  clear hS
  by_cases hi:i<m
  ·have hs:=hswap wr (swpR d a b i) HS.out.hold (by rw [ZfF]; exact hd) (a+i) (b+i) (by omega) (by omega)
   rw [show ((a+i:Nat):Int)=(a:Int)+(i:Int) by omega,show ((b+i:Nat):Int)=(b:Int)+(i:Int) by omega] at hs
   go_wp2
   exact ⟨⟨i+1,by go_num,by omega,HS.out.swap hk (by rw [ZfF]; omega) (by rw [ZfF]; omega)⟩,by simp [intOf]; omega⟩
  ·go_wp2
   go_end0
   have:i=m:=by omega
   subst this
   exact ⟨rfl,hB.trans HS.out⟩
theorem ZuR {d:Array α} {W:World} (hd:d.size=n) (h0:SU enc k g T cs W d W) (a m b:Nat) (h1:a≤m) (h2:m≤b) (h3:b≤n) (h4:a<m∧m<b):
 Calls Tryz.prog 273 #[LS f lb sf sb,.int .i64 a,.int .i64 m,.int .i64 b] W fun e w'=>e=.returned (.tuple #[])∧∃ e,SU enc k g T cs W e w'∧PermIn a b d e∧∀ k,e[k]! = rotF d a m b k:=by
 have hg:=h0.lt
 have hB:SU enc k g T cs W d (W.alloc (LSo f lb sf sb)):=h0.more (Up.al _ (Up.rfl' W))
 have hsw:=fun (d':Array α) (W':World) (hd':d'.size=n) (h':SU enc k g T cs W' d' W') (a b m:Nat) (h1:a+m≤b) (h2:b+m≤n)=>Zxq hk f lb sf sb n hn hswap (T:=T) (cs:=cs) hd' h' a b m h1 h2
 go_enter Tryz.func273,Tryz.ntmps273
 go_wp2
 go_loopw [8,9] (fun vi vj wr=>∃ (i j:Nat) (e:Array α),vi=.int .i64 i∧vj=.int .i64 j∧0<i∧0<j∧i≤m-a∧j≤b-m∧e.size=n∧PermIn a b d e∧(∀ k,rotF e (m-i) m (m+j) k=rotF d a m b k)∧SU enc k g T cs (W.alloc (LSo f lb sf sb)) e wr) (fun vi vj _=>(intOf vi).toNat+(intOf vj).toNat)
 case atStart=>exact ⟨m-a,b-m,d,by go_num,by go_num,by omega,by omega,Nat.le_refl _,Nat.le_refl _,hd,permIn_refl _ _ _,fun k=>by rw [show m-(m-a)=a by omega,show m+(b-m)=b by omega],hB.self⟩
 case round=>
  obtain ⟨i,j,e,rfl,rfl,hi,hj,hia,hjb,he,hP,hR,hS⟩:=hrel
  have c0:wr.cell? ⟨W.heap.size,0,none⟩=some (.func (.func f) #[] lb):=by rw [hS.oth (by simp) (by omega)]; simp
  have c1:wr.cell? ⟨W.heap.size,1,none⟩=some (.func (.func sf) #[] sb):=by rw [hS.oth (by simp) (by omega)]; simp
  have HS:Hid (SU enc k g T cs (W.alloc (LSo f lb sf sb)) e wr):=hS
  have HR:Hid (∀ k,rotF e (m-i) m (m+j) k=rotF d a m b k):=hR
  have HB:Hid (SU enc k g T cs W d (W.alloc (LSo f lb sf sb))):=hB
  clear hS hR hB h0
  by_cases hij:i=j
  ·subst hij
   have q:=hsw e wr he HS.out.self (m-i) m i (by omega) (by omega)
   rw [show ((m-i:Nat):Int)=(m:Int)-(i:Int) by omega] at q
   go_wp2_with (go_at_call 286; refine q.mono ?_; rintro e w' ⟨rfl,hw⟩)
   go_end0
   exact ⟨rfl,swpR e (m-i) m i,(HB.out.trans HS.out).trans hw,permIn_trans _ _ _ _ _ hP (ZiF e (by omega) i (by omega) (by omega) (by omega) (by omega)),fun k=>(Zw2 e (by omega) (by omega) k).trans (HR.out k)⟩
  ·by_cases hgt:j<i
   ·have q:=hsw e wr he HS.out.self (m-i) m j (by omega) (by omega)
    rw [show ((m-i:Nat):Int)=(m:Int)-(i:Int) by omega] at q
    go_wp2_with (go_at_call 286; refine q.mono ?_; rintro e w' ⟨rfl,hw⟩)
    refine ⟨⟨i-j,j,swpR e (m-i) m j,by go_num,rfl,by omega,hj,by omega,hjb,by rw [ZfF]; exact he,permIn_trans _ _ _ _ _ hP (ZiF e (by omega) j (by omega) (by omega) (by omega) (by omega)),fun k=>?_,HS.out.trans hw⟩,by simp [intOf]; omega⟩
    rw [show m-(i-j)=m-i+j by omega]
    exact (Zw3 e hgt (by omega) (by omega) k).trans (HR.out k)
   ·have q:=hsw e wr he HS.out.self (m-i) (m+j-i) i (by omega) (by omega)
    rw [show ((m-i:Nat):Int)=(m:Int)-(i:Int) by omega,show ((m+j-i:Nat):Int)=(m:Int)+(j:Int)-(i:Int) by omega] at q
    go_wp2_with (go_at_call 286; refine q.mono ?_; rintro e w' ⟨rfl,hw⟩)
    refine ⟨⟨i,j-i,swpR e (m-i) (m+j-i) i,rfl,by go_num,hi,by omega,hia,by omega,by rw [ZfF]; exact he,permIn_trans _ _ _ _ _ hP (ZiF e (by omega) i (by omega) (by omega) (by omega) (by omega)),fun k=>?_,HS.out.trans hw⟩,by simp [intOf]; omega⟩
    rw [show m+(j-i)=m+j-i by omega]
    exact (Zw4 e (by omega) (by omega) (by omega) k).trans (HR.out k)
omit hk hn hswap in
theorem Zl7 {lt:α→α→Bool} {d0:Array α} {W:World} (hL:ZhW f lb enc k lt g T cs n W) (h0:SU enc k g T cs W d0 W) {dj:Array α} {wr:World} (hS:SU enc k g T cs (W.alloc (LSo f lb sf sb)) dj wr) (hd:dj.size=n) (hsw:SwapSwapsK Tryz.prog sf sb enc k g 0 n) (i j:Nat) (hi:i<n) (hj:j<n):
 Calls Tryz.prog f (#[.int .i64 i,.int .i64 j]++lb) wr fun e w'=>e=.returned (.bool (lt dj[i]! dj[j]!))∧SU enc k g T cs (W.alloc (LSo f lb sf sb)) dj w'∧w'.cell? ⟨W.heap.size,0,none⟩=some (.func (.func f) #[] lb)∧w'.cell? ⟨W.heap.size,1,none⟩=some (.func (.func sf) #[] sb)∧
  (callFunc sf (#[.int .i64 i,.int .i64 j]++sb)).run Tryz.prog w'=.ok (.value (.tuple #[])) ((w'.setCells g (i*k) (enc dj[j]!)).setCells g (j*k) (enc dj[i]!)):=by
 have hg:=h0.lt
 refine (hL.on (h0.more (Up.al _ (Up.rfl' W))) dj wr hS hd i j hi hj).mono ?_
 rintro e w' ⟨he,hu⟩
 have hS':=hS.more hu
 have hs:=hsw w' dj hS'.hold hd i j hi hj
 rw [Nat.zero_add,Nat.zero_add] at hs
 exact ⟨he,hS',by rw [hS'.oth (by simp) (by omega)]; simp,by rw [hS'.oth (by simp) (by omega)]; simp,hs⟩
theorem Zr9 {lt:α→α→Bool} (eg:∀ args w,(callFunc f args).run Tryz.prog w=.ok (.enter f args) w) {d:Array α} {W:World} (hd:d.size=n) (h0:SU enc k g T cs W d W) (hL:ZhW f lb enc k lt g T cs n W) (a b:Nat) (hab:a≤b) (hb:b≤n):
 Calls Tryz.prog 268 #[LS f lb sf sb,.int .i64 a,.int .i64 b] W fun e w'=>e=.returned (.tuple #[])∧SU enc k g T cs W (Sort.insertionSort lt d a b) w':=by
 have hB:SU enc k g T cs W d (W.alloc (LSo f lb sf sb)):=h0.more (Up.al _ (Up.rfl' W))
 have hless:=fun dj wr hS hd' i j hi hj=>Zl7 (dj:=dj) (wr:=wr) f lb sf sb n hL h0 hS hd' hswap i j hi hj
 have HB:Hid (SU enc k g T cs W d (W.alloc (LSo f lb sf sb))):=hB
 have hg:=h0.lt
 clear h0 hL
 go_enter Tryz.func268,Tryz.ntmps268
 go_wp2
 go_loopw [6] (fun vi wr=>∃ (i:Nat) (dk:Array α),vi=.int .i64 i∧a<i∧i≤b+1∧dk.size=n∧SU enc k g T cs (W.alloc (LSo f lb sf sb)) dk wr∧
  insOuter lt a b i dk=insOuter lt a b (a+1) d) (fun vi _=>b+1-(intOf vi).toNat)
 case atStart=>exact ⟨a+1,d,by go_num,by omega,by omega,hd,hB.self,rfl⟩
 case round=>
  obtain ⟨i,dk,rfl,hai,hib,hsk,hwr,hO⟩:=hrel
  have HO:Hid (insOuter lt a b i dk=insOuter lt a b (a+1) d):=hO
  clear hO
  go_wp2
  ·go_loopw [7] (fun vj wr2=>∃ (j:Nat) (dj:Array α),vj=.int .i64 j∧a≤j∧j≤i∧dj.size=n∧SU enc k g T cs (W.alloc (LSo f lb sf sb)) dj wr2∧
    insInner lt a j dj=insInner lt a i dk) (fun vj _=>(intOf vj).toNat)
   case atStart=>exact ⟨i,dk,rfl,by omega,Nat.le_refl _,hsk,hwr,rfl⟩
   case round=>
    obtain ⟨j,dj,rfl,haj,hji,hsj,hw2,hI⟩:=hrel
    have hlt:i<b:=by assumption
    have c0:wr.cell? ⟨W.heap.size,0,none⟩=some (.func (.func f) #[] lb):=by rw [hw2.oth (by simp) (by omega)]; simp
    have c1:wr.cell? ⟨W.heap.size,1,none⟩=some (.func (.func sf) #[] sb):=by rw [hw2.oth (by simp) (by omega)]; simp
    have HW:Hid (SU enc k g T cs (W.alloc (LSo f lb sf sb)) dj wr):=hw2
    have HI:Hid (insInner lt a j dj=insInner lt a i dk):=hI
    clear hw2 hI hwr hB
    have out:(j≤a∨lt dj[j]! dj[j-1]! = false)→∀ W',SU enc k g T cs (W.alloc (LSo f lb sf sb)) dj W'→∃ (i':Nat) (dk':Array α),Value.int .i64 ((i:Int)+1)=.int .i64 (i':Nat)∧a<i'∧i'≤b+1∧dk'.size=n∧
     SU enc k g T cs (W.alloc (LSo f lb sf sb)) dk' W'∧insOuter lt a b i' dk'=insOuter lt a b (a+1) d:=fun hs W' hW=>
     ⟨i+1,dj,by go_num,by omega,by omega,hsj,hW,
      by rw [← HO.out,insOuter_go _ _ _ _ _ hlt,← HI.out,insInner_stop _ _ _ _ hs]⟩
    have OUT:Hid _:=out
    clear out
    by_cases hja:a<j
    ·have hl:=hless dj wr HW.out hsj j (j-1) (by omega) (by omega)
     rw [show (((j-1:Nat):Int))=(j:Int)-1 by omega] at hl
     clear hless
     cases hlv:lt dj[j]! dj[j-1]! with
     | true=>
      rw [hlv] at hl
      go_wp2_with (go_at_fn f; refine hl.mono ?_; rintro e w' ⟨rfl,hS,c0',c1',hs⟩)
      refine ⟨?_,by simp [intOf]; omega⟩
      (repeat apply Exists.intro)
      refine ⟨⟨j-1,swp dj j (j-1),by congr 1 <;> omega,by omega,by omega,by rw [size_swp]; exact hsj,hS.swap hk (by omega) (by omega),?_⟩,by rw [decide_eq_true hlt,show ((j-1:Nat):Int)=(j:Int)-1 by omega]⟩
      rw [← HI.out,insInner_go lt a j dj hja hlv]
     | false=>
      rw [hlv] at hl
      go_wp2_with (go_at_fn f; refine hl.mono ?_; rintro e w' ⟨rfl,hS,c0',c1',hs⟩)
      exact ⟨OUT.out (.inr hlv) _ hS,by simp [intOf]; omega⟩
    ·go_wp2
     exact ⟨OUT.out (.inl (by omega)) _ HW.out,by simp [intOf]; omega⟩
  ·have hge:¬ i<b:=by assumption
   go_end0
   exact ⟨rfl,by unfold Sort.insertionSort; rw [← HO.out,insOuter_stop _ _ _ _ _ hge]; exact HB.out.trans hwr⟩
end
section
variable {α:Type} [Inhabited α] {enc:α→List Value} {k:Nat} {g:Nat} {T:TypeId} {cs:Nat}
variable (hk:∀ x,(enc x).length=k) (f:Nat) (lb:Array Value) (sf:Nat) (sb:Array Value) (n:Nat) (hn:n<1152921504606846976) (hswap:SwapSwapsK Tryz.prog sf sb enc k g 0 n)
include hk hn hswap
theorem ZyH {lt:α→α→Bool} (hO:SWO lt) (eg:∀ args w,(callFunc f args).run Tryz.prog w=.ok (.enter f args) w) {d:Array α} {W:World} (hd:d.size=n) (h0:SU enc k g T cs W d W) (hL:ZhW f lb enc k lt g T cs n W) (a m b:Nat) (h1:m=a+1) (h2:m<b) (hb:b≤n) (hs:SortedIn lt m b d):
 Calls Tryz.prog 269 #[LS f lb sf sb,.int .i64 a,.int .i64 m,.int .i64 b] W fun e w'=>e=.returned (.tuple #[])∧∃ e,SU enc k g T cs W e w'∧PermIn a b d e∧SortedIn lt a b e:=by
 have hB:SU enc k g T cs W d (W.alloc (LSo f lb sf sb)):=h0.more (Up.al _ (Up.rfl' W))
 have hless:=fun dj wr hS hd' i j hi hj=>Zl7 (dj:=dj) (wr:=wr) f lb sf sb n hL h0 hS hd' hswap i j hi hj
 have HB:Hid (SU enc k g T cs W d (W.alloc (LSo f lb sf sb))):=hB
 have HSs:Hid (SortedIn lt m b d):=hs
 have hg:=h0.lt
 clear h0 hL hs
 have hma:(m:Int)-(a:Int)=1:=by omega
 have H1:Hid (m=a+1):=h1
 clear h1
 go_enter Tryz.func269,Tryz.ntmps269
 go_wp2
 go_loopw [8,9] (fun vi vj wr=>∃ (i j:Nat),vi=.int .i64 i∧vj=.int .i64 j∧m≤i∧i≤j∧j≤b∧(i=m∨lt d[i-1]! d[a]! = true)∧(j=b∨lt d[j]! d[a]! = false)∧SU enc k g T cs (W.alloc (LSo f lb sf sb)) d wr) (fun vi vj _=>(intOf vj).toNat-(intOf vi).toNat)
 case atStart=>exact ⟨m,b,rfl,rfl,by omega,by omega,by omega,.inl rfl,.inl rfl,hB.self⟩
 case round=>
  obtain ⟨i,j,rfl,rfl,hi,hij,hj,hc1,hc2,hS⟩:=hrel
  have c0:wr.cell? ⟨W.heap.size,0,none⟩=some (.func (.func f) #[] lb):=by rw [hS.oth (by simp) (by omega)]; simp
  have c1:wr.cell? ⟨W.heap.size,1,none⟩=some (.func (.func sf) #[] sb):=by rw [hS.oth (by simp) (by omega)]; simp
  have HS:Hid (SU enc k g T cs (W.alloc (LSo f lb sf sb)) d wr):=hS
  have HC1:Hid (i=m∨lt d[i-1]! d[a]! = true):=hc1
  have HC2:Hid (j=b∨lt d[j]! d[a]! = false):=hc2
  clear hS hB hc1 hc2
  by_cases hlt:i<j
  ·have hl:=hless d wr HS.out hd ((i+j) / 2) a (by omega) (by omega)
   rw [show (((i+j) / 2:Nat):Int)=((i:Int)+(j:Int)) / 2 by omega] at hl
   clear hless
   cases hlv:lt d[(i+j) / 2]! d[a]! with
   | true=>
    rw [hlv] at hl
    go_wp2_with (go_at_fn f; refine hl.mono ?_; rintro e w' ⟨rfl,hS,c0',c1',_⟩)
    refine ⟨?_,by simp [intOf]; omega⟩
    exact ⟨(i+j) / 2+1,j,by go_num,rfl,by omega,by omega,by omega,.inr (by rw [Nat.add_sub_cancel]; exact hlv),HC2.out,hS⟩
   | false=>
    rw [hlv] at hl
    go_wp2_with (go_at_fn f; refine hl.mono ?_; rintro e w' ⟨rfl,hS,c0',c1',_⟩)
    refine ⟨?_,by simp [intOf]; omega⟩
    exact ⟨i,(i+j) / 2,rfl,by go_num,by omega,by omega,by omega,HC1.out,.inr hlv,hS⟩
  ·have hij':i=j:=by omega
   subst hij'
   go_wp2
   go_loopw [11] (fun vq wr2=>∃ q:Nat,vq=.int .i64 ((a:Int)+(q:Int))∧a+q+1≤i∧SU enc k g T cs (W.alloc (LSo f lb sf sb)) (shU d a q) wr2) (fun vq _=>i-(intOf vq).toNat)
   case atStart=>exact ⟨0,by go_num,by omega,HS.out⟩
   case round=>
    obtain ⟨q,rfl,hq,hS2⟩:=hrel
    have c0:wr.cell? ⟨W.heap.size,0,none⟩=some (.func (.func f) #[] lb):=by rw [hS2.oth (by simp) (by omega)]; simp
    have c1:wr.cell? ⟨W.heap.size,1,none⟩=some (.func (.func sf) #[] sb):=by rw [hS2.oth (by simp) (by omega)]; simp
    have HS2:Hid (SU enc k g T cs (W.alloc (LSo f lb sf sb)) (shU d a q) wr):=hS2
    clear hS2
    by_cases hqi:a+q+1<i
    ·have hs:=hswap wr (shU d a q) HS2.out.hold (by rw [Zg6]; exact hd) (a+q) (a+q+1) (by omega) (by omega)
     rw [Nat.zero_add,Nat.zero_add,show ((a+q+1:Nat):Int)=(a:Int)+(q:Int)+1 by omega,show ((a+q:Nat):Int)=(a:Int)+(q:Int) by omega] at hs
     have hlt2:(a:Int)+(q:Int)<(i:Int)-1:=by omega
     go_wp2
     exact ⟨⟨q+1,by congr 1,by omega,HS2.out.swap hk (by rw [Zg6]; omega) (by rw [Zg6]; omega)⟩,by simp [intOf]; omega⟩
    ·have hge2:¬ (a:Int)+(q:Int)<(i:Int)-1:=by omega
     go_wp2
     (try simp only [Exit.inBlock,Exit.then])
     refine bodyPost_ret (results_none rfl _ _ _) rfl ?_
     refine ⟨rfl,shU d a q,HB.out.trans HS2.out,ZpY d q (by omega) (by omega),?_⟩
     obtain rfl:=H1.out
     exact Zum hO HSs.out (by omega) hj HC1.out HC2.out (fun k=>by rw [show i=a+1+q by omega]; exact Zte d q (by omega) k)
theorem ZyI {lt:α→α→Bool} (hO:SWO lt) (eg:∀ args w,(callFunc f args).run Tryz.prog w=.ok (.enter f args) w) {d:Array α} {W:World} (hd:d.size=n) (h0:SU enc k g T cs W d W) (hL:ZhW f lb enc k lt g T cs n W) (a m b:Nat) (h1:b=m+1) (h2:a+1<m) (hb:b≤n) (hs:SortedIn lt a m d):
 Calls Tryz.prog 269 #[LS f lb sf sb,.int .i64 a,.int .i64 m,.int .i64 b] W fun e w'=>e=.returned (.tuple #[])∧∃ e,SU enc k g T cs W e w'∧PermIn a b d e∧SortedIn lt a b e:=by
 have hB:SU enc k g T cs W d (W.alloc (LSo f lb sf sb)):=h0.more (Up.al _ (Up.rfl' W))
 have hless:=fun dj wr hS hd' i j hi hj=>Zl7 (dj:=dj) (wr:=wr) f lb sf sb n hL h0 hS hd' hswap i j hi hj
 have HB:Hid (SU enc k g T cs W d (W.alloc (LSo f lb sf sb))):=hB
 have HSs:Hid (SortedIn lt a m d):=hs
 have hg:=h0.lt
 clear h0 hL hs
 have hna:((m:Int)-(a:Int) == 1)=false:=by simp; omega
 have hmb:(b:Int)-(m:Int)=1:=by omega
 have H1:Hid (b=m+1):=h1
 have hlt3:m<b:=by omega
 clear h1
 go_enter Tryz.func269,Tryz.ntmps269
 go_wp2
 clear hna hmb
 go_loopw [12,13] (fun vi vj wr=>∃ (i j:Nat),vi=.int .i64 i∧vj=.int .i64 j∧a≤i∧i≤j∧j≤m∧(i=a∨lt d[m]! d[i-1]! = false)∧(j=m∨lt d[m]! d[j]! = true)∧SU enc k g T cs (W.alloc (LSo f lb sf sb)) d wr) (fun vi vj _=>(intOf vj).toNat-(intOf vi).toNat)
 case atStart=>exact ⟨a,m,rfl,rfl,by omega,by omega,by omega,.inl rfl,.inl rfl,hB.self⟩
 case round=>
  obtain ⟨i,j,rfl,rfl,hi,hij,hj,hc1,hc2,hS⟩:=hrel
  have c0:wr.cell? ⟨W.heap.size,0,none⟩=some (.func (.func f) #[] lb):=by rw [hS.oth (by simp) (by omega)]; simp
  have c1:wr.cell? ⟨W.heap.size,1,none⟩=some (.func (.func sf) #[] sb):=by rw [hS.oth (by simp) (by omega)]; simp
  have HS:Hid (SU enc k g T cs (W.alloc (LSo f lb sf sb)) d wr):=hS
  have HC1:Hid (i=a∨lt d[m]! d[i-1]! = false):=hc1
  have HC2:Hid (j=m∨lt d[m]! d[j]! = true):=hc2
  clear hS hB hc1 hc2
  by_cases hlt:i<j
  ·have hl:=hless d wr HS.out hd m ((i+j) / 2) (by omega) (by omega)
   rw [show (((i+j) / 2:Nat):Int)=((i:Int)+(j:Int)) / 2 by omega] at hl
   clear hless
   cases hlv:lt d[m]! d[(i+j) / 2]! with
   | true=>
    rw [hlv] at hl
    go_wp2_with (go_at_fn f; refine hl.mono ?_; rintro e w' ⟨rfl,hS,c0',c1',_⟩)
    refine ⟨?_,by simp [intOf]; omega⟩
    exact ⟨i,(i+j) / 2,rfl,by go_num,by omega,by omega,by omega,HC1.out,.inr hlv,hS⟩
   | false=>
    rw [hlv] at hl
    go_wp2_with (go_at_fn f; refine hl.mono ?_; rintro e w' ⟨rfl,hS,c0',c1',_⟩)
    refine ⟨?_,by simp [intOf]; omega⟩
    exact ⟨(i+j) / 2+1,j,by go_num,rfl,by omega,by omega,by omega,.inr (by rw [Nat.add_sub_cancel]; exact hlv),HC2.out,hS⟩
  ·have hij':i=j:=by omega
   subst hij'
   go_wp2
   go_loopw [15] (fun vq wr2=>∃ q:Nat,vq=.int .i64 ((m:Int)-(q:Int))∧q+i≤m∧SU enc k g T cs (W.alloc (LSo f lb sf sb)) (shD d m q) wr2) (fun vq _=>(intOf vq).toNat)
   case atStart=>exact ⟨0,by go_num,by omega,HS.out⟩
   case round=>
    obtain ⟨q,rfl,hq,hS2⟩:=hrel
    have c0:wr.cell? ⟨W.heap.size,0,none⟩=some (.func (.func f) #[] lb):=by rw [hS2.oth (by simp) (by omega)]; simp
    have c1:wr.cell? ⟨W.heap.size,1,none⟩=some (.func (.func sf) #[] sb):=by rw [hS2.oth (by simp) (by omega)]; simp
    have HS2:Hid (SU enc k g T cs (W.alloc (LSo f lb sf sb)) (shD d m q) wr):=hS2
    clear hS2
    by_cases hqi:q+i<m
    ·have hs:=hswap wr (shD d m q) HS2.out.hold (by rw [Zg5]; exact hd) (m-q) (m-q-1) (by omega) (by omega)
     rw [Nat.zero_add,Nat.zero_add,show ((m-q-1:Nat):Int)=(m:Int)-(q:Int)-1 by omega,show ((m-q:Nat):Int)=(m:Int)-(q:Int) by omega] at hs
     have hlt2:(i:Int)<(m:Int)-(q:Int):=by omega
     go_wp2
     exact ⟨⟨q+1,by congr 1; omega,by omega,HS2.out.swap hk (by rw [Zg5]; omega) (by rw [Zg5]; omega)⟩,by simp [intOf]; omega⟩
    ·have hge2:¬ (i:Int)<(m:Int)-(q:Int):=by omega
     go_wp2
     (try simp only [Exit.inBlock,Exit.then])
     refine bodyPost_ret (results_none rfl _ _ _) rfl ?_
     obtain rfl:=H1.out
     refine ⟨rfl,shD d m q,HB.out.trans HS2.out,ZpX d q (by omega) (by omega),?_⟩
     exact Zsa hO HSs.out hi hj HC1.out HC2.out (fun k=>by rw [show i=m-q by omega]; exact Ztd d q (by omega) (by omega) k)
end
section
variable {α:Type} [Inhabited α] {enc:α→List Value} {k:Nat} {g:Nat} {T:TypeId} {cs:Nat}
variable (hk:∀ x,(enc x).length=k) (f:Nat) (lb:Array Value) (sf:Nat) (sb:Array Value) (n:Nat) (hn:n<1152921504606846976) (hswap:SwapSwapsK Tryz.prog sf sb enc k g 0 n)
include hk hn hswap
theorem ZyJ {lt:α→α→Bool} (hO:SWO lt) (eg:∀ args w,(callFunc f args).run Tryz.prog w=.ok (.enter f args) w):∀ (N:Nat) (d:Array α) (W:World),d.size=n→SU enc k g T cs W d W→ZhW f lb enc k lt g T cs n W→∀ (a m b:Nat),b-a≤N→a<m→m<b→b≤n→SortedIn lt a m d→SortedIn lt m b d→
 Calls Tryz.prog 269 #[LS f lb sf sb,.int .i64 a,.int .i64 m,.int .i64 b] W fun e w'=>e=.returned (.tuple #[])∧∃ e,SU enc k g T cs W e w'∧PermIn a b d e∧SortedIn lt a b e:=by
 intro N
 induction N with
 | zero=>intro d W hd h0 hL a m b hN h1 h2; omega
 | succ N ih=>
 intro d W hd h0 hL a m b hN h1 h2 hb hs1 hs2
 by_cases hma:m=a+1
 ·exact ZyH hk f lb sf sb n hn hswap hO eg hd h0 hL a m b hma h2 hb hs2
 by_cases hmb:b=m+1
 ·exact ZyI hk f lb sf sb n hn hswap hO eg hd h0 hL a m b hmb (by omega) hb hs1
 have hB:SU enc k g T cs W d (W.alloc (LSo f lb sf sb)):=h0.more (Up.al _ (Up.rfl' W))
 have hless:=fun dj wr hS hd' i j hi hj=>Zl7 (dj:=dj) (wr:=wr) f lb sf sb n hL h0 hS hd' hswap i j hi hj
 have HL:Hid (∀ d' W',SU enc k g T cs (W.alloc (LSo f lb sf sb)) d' W'→ZhW f lb enc k lt g T cs n W'):=fun d' W' h'=>hL.on (hB.trans h')
 have HB:Hid (SU enc k g T cs W d (W.alloc (LSo f lb sf sb))):=hB
 have HS1:Hid (SortedIn lt a m d):=hs1
 have HS2:Hid (SortedIn lt m b d):=hs2
 have hrot:=fun (d':Array α) (W':World) (hd':d'.size=n) (h':SU enc k g T cs W' d' W') (a m b:Nat) (h1:a≤m) (h2:m≤b) (h3:b≤n) (h4:a<m∧m<b)=>ZuR hk f lb sf sb n hn hswap (T:=T) (cs:=cs) hd' h' a m b h1 h2 h3 h4
 have HR:Hid _:=hrot
 have HI:Hid _:=ih
 have HLS:Hid _:=hless
 have hg:=h0.lt
 clear h0 hL hs1 hs2 hrot ih hless
 have hna:((m:Int)-(a:Int) == 1)=false:=by simp; omega
 have hnb:((b:Int)-(m:Int) == 1)=false:=by simp; omega
 have hmid:((a:Int)+(b:Int)) / 2=(((a+b) / 2:Nat):Int):=by omega
 obtain ⟨mid,hmd⟩:∃ mid,mid=(a+b) / 2:=⟨_,rfl⟩
 rw [← hmd] at hmid
 have hm1:2*mid≤a+b:=by omega
 have hm2:a+b≤2*mid+1:=by omega
 clear hmd hma hmb
 go_enter Tryz.func269,Tryz.ntmps269
 go_upto_if 106 with (fail)
 go_cut [18,19] (fun s18 s19 wx=>∃ s0 r0:Nat,s18=.int .i64 s0∧s19=.int .i64 r0∧a≤s0∧s0≤r0∧r0≤m∧r0≤mid∧((m≤mid∧s0=a∧r0=m)∨(mid<m∧s0+b=mid+m∧r0=mid))∧wx=W.alloc (LSo f lb sf sb))
 case first=>
  by_cases hmm:mid<m
  ·have hmm':(mid:Int)<(m:Int):=by omega
   go_wp2
   go_meet
   exact ⟨mid+m-b,mid,by go_num,rfl,by omega,by omega,by omega,by omega,.inr ⟨hmm,by omega,rfl⟩,rfl⟩
  ·have hmm':¬ (mid:Int)<(m:Int):=by omega
   go_wp2
   go_meet
   exact ⟨a,m,rfl,rfl,by omega,by omega,by omega,by omega,.inl ⟨by omega,rfl,rfl⟩,rfl⟩
 case rest=>
  obtain ⟨s0,r0,rfl,rfl,ha0,hsr,hrm,hrd,hs0,rfl⟩:=hcut
  clear hna hnb hmid hB
  have HS0:Hid ((m≤mid∧s0=a∧r0=m)∨(mid<m∧s0+b=mid+m∧r0=mid)):=hs0
  clear hs0
  go_wp2
  go_loopw [18,19] (fun vs vr wr=>∃ (s r:Nat),vs=.int .i64 s∧vr=.int .i64 r∧s0≤s∧s≤r∧r≤r0∧(s=s0∨lt d[mid+m-s]! d[s-1]! = false)∧(r=r0∨lt d[mid+m-1-r]! d[r]! = true)∧SU enc k g T cs (W.alloc (LSo f lb sf sb)) d wr) (fun vs vr _=>(intOf vr).toNat-(intOf vs).toNat)
  case atStart=>exact ⟨s0,r0,rfl,rfl,by omega,by omega,by omega,.inl rfl,.inl rfl,HB.out.self⟩
  case round=>
   obtain ⟨s,r,rfl,rfl,hs,hsr2,hr,hc1,hc2,hS⟩:=hrel
   have c0:wr.cell? ⟨W.heap.size,0,none⟩=some (.func (.func f) #[] lb):=by rw [hS.oth (by simp) (by omega)]; simp
   have c1:wr.cell? ⟨W.heap.size,1,none⟩=some (.func (.func sf) #[] sb):=by rw [hS.oth (by simp) (by omega)]; simp
   have HS:Hid (SU enc k g T cs (W.alloc (LSo f lb sf sb)) d wr):=hS
   have HC1:Hid (s=s0∨lt d[mid+m-s]! d[s-1]! = false):=hc1
   have HC2:Hid (r=r0∨lt d[mid+m-1-r]! d[r]! = true):=hc2
   clear hS hc1 hc2
   by_cases hlt:s<r
   ·have hq:mid+m-1-(s+r) / 2<n:=by rcases HS0.out with h | h <;> omega
    have hl:=HLS.out d wr HS.out hd (mid+m-1-(s+r) / 2) ((s+r) / 2) hq (by omega)
    rw [show ((mid+m-1-(s+r) / 2:Nat):Int)=(mid:Int)+(m:Int)-1-((s:Int)+(r:Int)) / 2 by omega,show (((s+r) / 2:Nat):Int)=((s:Int)+(r:Int)) / 2 by omega] at hl
    cases hlv:lt d[mid+m-1-(s+r) / 2]! d[(s+r) / 2]! with
    | true=>
     rw [hlv] at hl
     go_wp2_with (go_at_fn f; refine hl.mono ?_; rintro e w' ⟨rfl,hS,c0',c1',_⟩)
     refine ⟨?_,by simp [intOf]; omega⟩
     exact ⟨s,(s+r) / 2,rfl,by go_num,by omega,by omega,by omega,HC1.out,.inr hlv,hS⟩
    | false=>
     rw [hlv] at hl
     go_wp2_with (go_at_fn f; refine hl.mono ?_; rintro e w' ⟨rfl,hS,c0',c1',_⟩)
     refine ⟨?_,by simp [intOf]; omega⟩
     exact ⟨(s+r) / 2+1,r,by go_num,rfl,by omega,by omega,by omega,.inr (by rw [Nat.add_sub_cancel,show mid+m-((s+r) / 2+1)=mid+m-1-(s+r) / 2 by omega]; exact hlv),HC2.out,hS⟩
   ·have hsr':s=r:=by omega
    subst hsr'
    have hge:¬ s<s:=by omega
    obtain ⟨t,ht⟩:∃ t,t=mid+m-s:=⟨_,rfl⟩
    have htz:(mid:Int)+(m:Int)-(s:Int)=(t:Int):=by omega
    have hms:m≤t:=by omega
    have hst:s+(t-m)=mid:=by omega
    have htb:t≤b:=by rcases HS0.out with h | h <;> omega
    have HT:Hid (t=mid+m-s):=ht
    clear ht
    have dz:∀ x y:Nat,decide ((x:Int)<(y:Int))=decide (x<y):=fun x y=>by by_cases h:x<y <;> simp [h]
    have DZ:Hid _:=dz
    clear dz
    clear hge
    have HC1':Hid (a<s→t<b→lt d[t]! d[s-1]! = false):=fun h1 h2=>by
     rcases HC1.out with h | h
     ·rcases HS0.out with h3 | h3 <;> omega
     ·rw [HT.out]; exact h
    have HC2':Hid (s<m→m<t→lt d[t-1]! d[s]! = true):=fun h1 h2=>by
     rcases HC2.out with h | h
     ·rcases HS0.out with h3 | h3 <;> omega
     ·rw [show t-1=mid+m-1-s by rw [HT.out]; omega]; exact h
    go_upto_region 40 with (fail)
    go_cut [145] (fun s145 wx=>s145=.bool (decide (s<m∧m<t))∧wx=wr)
    case first=>
     by_cases q1:s<m
     ·by_cases q2:m<t
      ·have q3:decide (s<m∧m<t)=true:=decide_eq_true ⟨q1,q2⟩
       go_wp2
       go_meet
       exact ⟨by rw [q3],rfl⟩
      ·have q3:decide (s<m∧m<t)=false:=decide_eq_false fun h=>q2 h.2
       go_wp2
       go_meet
       exact ⟨by rw [q3],rfl⟩
     ·have q3:decide (s<m∧m<t)=false:=decide_eq_false fun h=>q1 h.1
      go_wp2
      go_meet
      exact ⟨by rw [q3],rfl⟩
    case rest=>
    obtain ⟨rfl,rfl⟩:=hcut
    go_upto_if 145 with (fail)
    go_cut [] (fun wx=>∃ e,SU enc k g T cs (W.alloc (LSo f lb sf sb)) e wx∧PermIn a b d e∧∀ k,e[k]! = rotF d s m t k)
    case first=>
     by_cases q:s<m∧m<t
     ·have q3:decide (s<m∧m<t)=true:=decide_eq_true q
      have hc:=HR.out d wc hd HS.out.self s m t (by omega) (by omega) (by omega) q
      go_wp2_with (go_at_call 273; refine hc.mono ?_; rintro e w' ⟨rfl,hE⟩)
      go_meet
      obtain ⟨e,hE1,hE2,hE3⟩:=hE
      exact ⟨e,HS.out.trans hE1,permIn_mono _ _ _ _ _ _ (by omega) (by omega) (by omega) hE2,hE3⟩
     ·have q3:decide (s<m∧m<t)=false:=decide_eq_false q
      go_wp2
      go_meet
      exact ⟨d,HS.out,permIn_refl _ _ _,fun k=>ZkD d (by omega) (by omega) (by omega) k⟩
    case rest=>
    obtain ⟨e,hE1,hE2,hE3⟩:=hcut
    obtain ⟨g1,g2,g3,g4,g5⟩:=Zyh hO HS1.out HS2.out ⟨by omega,by omega⟩ ⟨hms,htb⟩ hst HC1'.out HC2'.out hE3
    have G1:Hid (SortedIn lt a s e):=g1
    have G2:Hid (SortedIn lt s mid e):=g2
    have G3:Hid (SortedIn lt mid t e):=g3
    have G4:Hid (SortedIn lt t b e):=g4
    have G5:Hid (∀ i j,a≤i→i<mid→mid≤j→j<b→lt e[j]! e[i]! = false):=g5
    have hed:e.size=n:=hE2.1.trans hd
    have c0:wc.cell? ⟨W.heap.size,0,none⟩=some (.func (.func f) #[] lb):=by rw [hE1.oth (by simp) (by omega)]; simp
    have c1:wc.cell? ⟨W.heap.size,1,none⟩=some (.func (.func sf) #[] sb):=by rw [hE1.oth (by simp) (by omega)]; simp
    have HE1:Hid (SU enc k g T cs (W.alloc (LSo f lb sf sb)) e wc):=hE1
    have HE2:Hid (PermIn a b d e):=hE2
    clear g1 g2 g3 g4 g5 hE1 hE2 hE3
    go_upto_region 42 with (fail)
    go_cut [158] (fun s158 wx=>s158=.bool (decide (a<s∧s<mid))∧wx=wc)
    case first=>
     by_cases q1:a<s
     ·by_cases q2:s<mid
      ·have q3:decide (a<s∧s<mid)=true:=decide_eq_true ⟨q1,q2⟩
       go_wp2
       go_meet
       exact ⟨by rw [q3],rfl⟩
      ·have q3:decide (a<s∧s<mid)=false:=decide_eq_false fun h=>q2 h.2
       go_wp2
       go_meet
       exact ⟨by rw [q3],rfl⟩
     ·have q3:decide (a<s∧s<mid)=false:=decide_eq_false fun h=>q1 h.1
      go_wp2
      go_meet
      exact ⟨by rw [q3],rfl⟩
    case rest=>
    obtain ⟨rfl,rfl⟩:=hcut
    go_upto_if 158 with (fail)
    go_cut [] (fun wx=>∃ e1,SU enc k g T cs (W.alloc (LSo f lb sf sb)) e1 wx∧PermIn a mid e e1∧SortedIn lt a mid e1)
    case first=>
     by_cases q:a<s∧s<mid
     ·have q3:decide (a<s∧s<mid)=true:=decide_eq_true q
      have hc:=HI.out e _ hed HE1.out.self (HL.out e _ HE1.out) a s mid (by omega) q.1 q.2 (by omega) G1.out G2.out
      go_wp2_with (go_at_call 269; refine hc.mono ?_; rintro e' w' ⟨rfl,hE⟩)
      go_meet
      obtain ⟨e1,hE1,hE2,hE3⟩:=hE
      exact ⟨e1,HE1.out.trans hE1,hE2,hE3⟩
     ·have q3:decide (a<s∧s<mid)=false:=decide_eq_false q
      go_wp2
      go_meet
      refine ⟨e,HE1.out,permIn_refl _ _ _,?_⟩
      by_cases q4:a<s
      ·exact Zia G1.out (Nat.le_refl _) (by omega)
      ·exact Zia G2.out (by omega) (Nat.le_refl _)
    case rest=>
    obtain ⟨e1,hF1,hF2,hF3⟩:=hcut
    have hed1:e1.size=n:=hF2.1.trans hed
    have g3:SortedIn lt mid t e1:=ZkO G3.out fun k h1 h2=>hF2.2.1 k (.inr h1)
    have g4:SortedIn lt t b e1:=ZkO G4.out fun k h1 h2=>hF2.2.1 k (.inr (by omega))
    have c0':wc.cell? ⟨W.heap.size,0,none⟩=some (.func (.func f) #[] lb):=by rw [hF1.oth (by simp) (by omega)]; simp
    have c1':wc.cell? ⟨W.heap.size,1,none⟩=some (.func (.func sf) #[] sb):=by rw [hF1.oth (by simp) (by omega)]; simp
    have K3:Hid (SortedIn lt mid t e1):=g3
    have K4:Hid (SortedIn lt t b e1):=g4
    have HF1:Hid (SU enc k g T cs (W.alloc (LSo f lb sf sb)) e1 wc):=hF1
    have HF2:Hid (PermIn a mid e e1):=hF2
    have HF3:Hid (SortedIn lt a mid e1):=hF3
    clear g3 g4 hF1 hF2 hF3
    have fin:∀ w' e2,SU enc k g T cs (W.alloc (LSo f lb sf sb)) e2 w'→PermIn mid b e1 e2→SortedIn lt mid b e2→∃ e,SU enc k g T cs W e w'∧PermIn a b d e∧SortedIn lt a b e:=fun w' e2 h1 h2 h3=>by
     obtain ⟨x1,x2⟩:=glue hO (by omega) (by omega) (by omega) HF2.out h2 HF3.out h3 G5.out
     exact ⟨e2,HB.out.trans h1,permIn_trans _ _ _ _ _ HE2.out x1,x2⟩
    have FIN:Hid _:=fin
    clear fin
    go_upto_region 44 with (fail)
    go_cut [171] (fun s171 wx=>s171=.bool (decide (mid<t∧t<b))∧wx=wc)
    case first=>
     by_cases q1:mid<t
     ·by_cases q2:t<b
      ·have q3:decide (mid<t∧t<b)=true:=decide_eq_true ⟨q1,q2⟩
       go_wp2
       go_meet
       exact ⟨by rw [q3],rfl⟩
      ·have q3:decide (mid<t∧t<b)=false:=decide_eq_false fun h=>q2 h.2
       go_wp2
       go_meet
       exact ⟨by rw [q3],rfl⟩
     ·have q3:decide (mid<t∧t<b)=false:=decide_eq_false fun h=>q1 h.1
      go_wp2
      go_meet
      exact ⟨by rw [q3],rfl⟩
    case rest=>
    obtain ⟨rfl,rfl⟩:=hcut
    by_cases q:mid<t∧t<b
    ·have q3:decide (mid<t∧t<b)=true:=decide_eq_true q
     have hc:=HI.out e1 _ hed1 HF1.out.self (HL.out e1 _ HF1.out) mid t b (by omega) q.1 q.2 hb K3.out K4.out
     go_wp2_with (go_at_call 269; refine hc.mono ?_; rintro e' w' ⟨rfl,hE⟩)
     go_end0
     obtain ⟨e2,hE1,hE2,hE3⟩:=hE
     exact ⟨rfl,FIN.out _ e2 (HF1.out.trans hE1) hE2 hE3⟩
    ·have q3:decide (mid<t∧t<b)=false:=decide_eq_false q
     go_wp2
     go_end0
     refine ⟨rfl,FIN.out _ e1 HF1.out (permIn_refl _ _ _) ?_⟩
     by_cases q4:mid<t
     ·exact Zia K3.out (Nat.le_refl _) (by omega)
     ·exact Zia K4.out (by omega) (Nat.le_refl _)
end
section
variable {α:Type} [Inhabited α] {lt:α→α→Bool}
def MI (lt:α→α→Bool) (bs n q:Nat) (d:Array α):Prop:=(∀ p,p<q→SortedIn lt (p*(2*bs)) (p*(2*bs)+2*bs) d)∧∀ p,2*q≤p→SortedIn lt (p*bs) (min (p*bs+bs) n) d
theorem mul2 (q bs:Nat):(2*q)*bs=q*(2*bs):=by rw [Nat.mul_comm 2 q,Nat.mul_assoc]
theorem MI.zero {bs n:Nat} {d:Array α} (h:Runs lt bs n d):MI lt bs n 0 d:=⟨fun p hp=>by omega,fun p _=>h p⟩
theorem MI.left {bs n q A:Nat} {d:Array α} (h:MI lt bs n q d) (hA:A=q*(2*bs)) (hn:A+bs≤n):SortedIn lt A (A+bs) d:=by
 have:=h.2 (2*q) (Nat.le_refl _)
 rw [mul2,← hA,Nat.min_eq_left hn] at this
 exact this
theorem MI.right {bs n q A:Nat} {d:Array α} (h:MI lt bs n q d) (hA:A=q*(2*bs)):SortedIn lt (A+bs) (min (A+2*bs) n) d:=by
 have:=h.2 (2*q+1) (by omega)
 rw [Nat.add_mul,Nat.one_mul,mul2,← hA,show A+bs+bs=A+2*bs by omega] at this
 exact this
theorem MI.last {bs n q A:Nat} {d:Array α} (h:MI lt bs n q d) (hA:A=q*(2*bs)) (hn:n≤A+bs):SortedIn lt A n d:=by
 have:=h.2 (2*q) (Nat.le_refl _)
 rw [mul2,← hA,Nat.min_eq_right hn] at this
 exact this
theorem MI.step {bs n q A:Nat} {d e:Array α} (h:MI lt bs n q d) (hA:A=q*(2*bs)) (hp:PermIn A (A+2*bs) d e) (hs:SortedIn lt A (A+2*bs) e):MI lt bs n (q+1) e:=by
 refine ⟨fun p hpq=>?_,fun p hpq=>?_⟩
 ·rcases Nat.lt_or_ge p q with h1 | h1
  ·have h2:(p+1)*(2*bs)≤q*(2*bs):=Nat.mul_le_mul_right _ h1
   rw [Nat.add_mul,Nat.one_mul] at h2
   exact ZkO (h.1 p h1) fun k _ hk=>hp.2.1 k (.inl (by omega))
  ·have:p=q:=by omega
   subst this
   rw [← hA]; exact hs
 ·have h2:(2*(q+1))*bs≤p*bs:=Nat.mul_le_mul_right _ hpq
  rw [mul2,Nat.add_mul,Nat.one_mul] at h2
  exact ZkO (h.2 p (by omega)) fun k hk _=>hp.2.1 k (.inr (by omega))
theorem MI.fin {bs n q A:Nat} {d e:Array α} (h:MI lt bs n q d) (hA:A=q*(2*bs)) (hn:n<A+2*bs) (hp:PermIn A n d e) (hs:SortedIn lt A n e):Runs lt (2*bs) n e:=by
 intro p
 rcases Nat.lt_trichotomy p q with h1 | h1 | h1
 ·have h2:(p+1)*(2*bs)≤q*(2*bs):=Nat.mul_le_mul_right _ h1
  rw [Nat.add_mul,Nat.one_mul] at h2
  exact ZkO (Zia (h.1 p h1) (Nat.le_refl _) (Nat.min_le_left _ _)) fun k _ hk=>hp.2.1 k (.inl (by omega))
 ·subst h1
  rw [← hA,Nat.min_eq_right (by omega)]; exact hs
 ·have h2:(q+1)*(2*bs)≤p*(2*bs):=Nat.mul_le_mul_right _ h1
  rw [Nat.add_mul,Nat.one_mul] at h2
  exact Ztm (by omega)
def BI (lt:α→α→Bool) (q:Nat) (d:Array α):Prop:=∀ p,p<q→SortedIn lt (p*20) (p*20+20) d
theorem BI.step {q:Nat} {d e:Array α} (h:BI lt q d) (hp:PermIn (q*20) (q*20+20) d e) (hs:SortedIn lt (q*20) (q*20+20) e):BI lt (q+1) e:=fun p hpq=>by
 by_cases h1:p=q
 ·subst h1; exact hs
 ·exact ZkO (h p (by omega)) fun k _ hk=>hp.2.1 k (.inl (by omega))
theorem BI.fin {q n:Nat} {d e:Array α} (h:BI lt q d) (hn:n<q*20+20) (hp:PermIn (q*20) n d e) (hs:SortedIn lt (q*20) n e):Runs lt 20 n e:=fun p=>by
 rcases Nat.lt_trichotomy p q with h1 | h1 | h1
 ·exact ZkO (Zia (h p h1) (Nat.le_refl _) (Nat.min_le_left _ _)) fun k _ hk=>hp.2.1 k (.inl (by omega))
 ·subst h1
  exact Zia hs (Nat.le_refl _) (Nat.min_le_right _ _)
 ·exact Ztm (by omega)
variable {enc:α→List Value} {k:Nat} {g:Nat} {T:TypeId} {cs:Nat}
variable (hk:∀ x,(enc x).length=k) (f:Nat) (lb:Array Value) (sf:Nat) (sb:Array Value) (n:Nat) (hn:n<1152921504606846976) (hswap:SwapSwapsK Tryz.prog sf sb enc k g 0 n)
include hk hn hswap
theorem Zp2 (hO:SWO lt) (eg:∀ args w,(callFunc f args).run Tryz.prog w=.ok (.enter f args) w) {d:Array α} {W:World} (hd:d.size=n) (h0:SU enc k g T cs W d W) (hL:ZhW f lb enc k lt g T cs n W):
 Calls Tryz.prog 241 #[LS f lb sf sb,.int .i64 n] W fun e w'=>e=.returned (.tuple #[])∧∃ e,SU enc k g T cs W e w'∧PermIn 0 n d e∧SortedIn lt 0 n e:=by
 have hB:SU enc k g T cs W d (W.alloc (LSo f lb sf sb)):=h0.more (Up.al _ (Up.rfl' W))
 have HL:Hid (∀ d' W',SU enc k g T cs (W.alloc (LSo f lb sf sb)) d' W'→ZhW f lb enc k lt g T cs n W'):=fun d' W' h'=>hL.on (hB.trans h')
 have HB:Hid (SU enc k g T cs W d (W.alloc (LSo f lb sf sb))):=hB
 have hI:=fun (d':Array α) (W':World) (hd':d'.size=n) (h':SU enc k g T cs W' d' W') (hL':ZhW f lb enc k lt g T cs n W') (a b:Nat) (hab:a≤b) (hb:b≤n)=>Zr9 hk f lb sf sb n hn hswap eg hd' h' hL' a b hab hb
 have hM:=fun (d':Array α) (W':World) (hd':d'.size=n) (h':SU enc k g T cs W' d' W') (hL':ZhW f lb enc k lt g T cs n W') (a m b:Nat)=>ZyJ hk f lb sf sb n hn hswap hO eg (b-a) d' W' hd' h' hL' a m b (Nat.le_refl _)
 have HI:Hid _:=hI
 have HM:Hid _:=hM
 have hg:=h0.lt
 clear h0 hL hI hM
 go_enter Tryz.func241,Tryz.ntmps241
 go_wp2
 go_loopw [5,6] (fun v5 v6 wr=>∃ (q:Nat) (dk:Array α),v5=.int .i64 ((q:Int)*20)∧v6=.int .i64 ((q:Int)*20+20)∧q*20≤n∧PermIn 0 n d dk∧BI lt q dk∧SU enc k g T cs (W.alloc (LSo f lb sf sb)) dk wr) (fun v5 v6 _=>n-(intOf v5).toNat)
 case atStart=>exact ⟨0,d,by go_num,by go_num,by omega,permIn_refl _ _ _,fun p hp=>by omega,hB.self⟩
 case round=>
  obtain ⟨q,dk,rfl,rfl,hq,hP,hBI,hS⟩:=hrel
  have c0:wr.cell? ⟨W.heap.size,0,none⟩=some (.func (.func f) #[] lb):=by rw [hS.oth (by simp) (by omega)]; simp
  have c1:wr.cell? ⟨W.heap.size,1,none⟩=some (.func (.func sf) #[] sb):=by rw [hS.oth (by simp) (by omega)]; simp
  have hds:dk.size=n:=hP.1.trans hd
  have HS:Hid (SU enc k g T cs (W.alloc (LSo f lb sf sb)) dk wr):=hS
  have HP:Hid (PermIn 0 n d dk):=hP
  have HBI:Hid (BI lt q dk):=hBI
  clear hS hB hP hBI
  by_cases hle:q*20+20≤n
  ·have hlez:(q:Int)*20+20≤(n:Int):=by omega
   have hc:=HI.out dk wr hds HS.out.self (HL.out dk wr HS.out) (q*20) (q*20+20) (by omega) hle
   rw [show ((q*20:Nat):Int)=(q:Int)*20 by omega,show ((q*20+20:Nat):Int)=(q:Int)*20+20 by omega] at hc
   go_wp2_with (go_at_call 268; refine hc.mono ?_; rintro e w' ⟨rfl,hE⟩)
   have x:=insertionSort_holds hO dk (q*20) (q*20+20) (by omega) (by omega)
   exact ⟨⟨q+1,_,by congr 1 <;> omega,by congr 1 <;> omega,by omega,permIn_trans _ _ _ _ _ HP.out (permIn_mono _ _ _ _ _ _ (by omega) (by omega) (by omega) x.1),HBI.out.step x.1 x.2,HS.out.trans hE⟩,by simp [intOf]; omega⟩
  ·have hlez:¬ (q:Int)*20+20≤(n:Int):=by omega
   have hc:=HI.out dk wr hds HS.out.self (HL.out dk wr HS.out) (q*20) n hq (Nat.le_refl _)
   rw [show ((q*20:Nat):Int)=(q:Int)*20 by omega] at hc
   go_wp2_with (go_at_call 268; refine hc.mono ?_; rintro e w' ⟨rfl,hE⟩)
   have x:=insertionSort_holds hO dk (q*20) n (by omega) (by omega)
   have hR0:=HBI.out.fin (by omega) x.1 x.2
   have hP0:=permIn_trans _ _ _ _ _ HP.out (permIn_mono _ _ _ _ _ _ (by omega) (Nat.le_refl _) (by omega) x.1)
   have hS0:=HS.out.trans hE
   clear x c0 c1
   go_loopw [4,5,6,7] (fun v4 v5 v6 v7 wr=>∃ (bs:Nat) (dk:Array α),v4=.int .i64 (bs:Int)∧1≤bs∧bs≤2*n+20∧PermIn 0 n d dk∧Runs lt bs n dk∧SU enc k g T cs (W.alloc (LSo f lb sf sb)) dk wr) (fun v4 _ _ _ _=>n-(intOf v4).toNat)
   case atStart=>exact ⟨20,_,by go_num,by omega,by omega,hP0,hR0,hS0⟩
   case round=>
    obtain ⟨bs,dk2,rfl,hb1,hb2,hP2,hR2,hS2⟩:=hrel
    have HP2:Hid (PermIn 0 n d dk2):=hP2
    have HR2:Hid (Runs lt bs n dk2):=hR2
    have HS2:Hid (SU enc k g T cs (W.alloc (LSo f lb sf sb)) dk2 wr):=hS2
    clear hP2 hR2 hS2 hP0 hR0 hS0 hE hlez hle hc HS HP HBI hq
    by_cases hlt:bs<n
    ·go_wp2
     go_loopw [5,6] (fun v5 v6 wr=>∃ (A:Nat) (dk:Array α),v5=.int .i64 (A:Int)∧v6=.int .i64 ((A:Int)+2*(bs:Int))∧A≤n∧PermIn 0 n d dk∧(∃ q,A=q*(2*bs)∧MI lt bs n q dk)∧SU enc k g T cs (W.alloc (LSo f lb sf sb)) dk wr) (fun v5 v6 _=>n-(intOf v5).toNat)
     case atStart=>exact ⟨0,dk2,by go_num,by go_num,by omega,HP2.out,⟨0,by omega,MI.zero HR2.out⟩,HS2.out⟩
     case round=>
      obtain ⟨A,dk3,rfl,rfl,hA,hP3,hM3,hS3⟩:=hrel
      have c0:wr.cell? ⟨W.heap.size,0,none⟩=some (.func (.func f) #[] lb):=by rw [hS3.oth (by simp) (by omega)]; simp
      have c1:wr.cell? ⟨W.heap.size,1,none⟩=some (.func (.func sf) #[] sb):=by rw [hS3.oth (by simp) (by omega)]; simp
      have hds3:dk3.size=n:=hP3.1.trans hd
      have HP3:Hid (PermIn 0 n d dk3):=hP3
      have HM3:Hid (∃ q,A=q*(2*bs)∧MI lt bs n q dk3):=hM3
      have HS3:Hid (SU enc k g T cs (W.alloc (LSo f lb sf sb)) dk3 wr):=hS3
      clear hP3 hM3 hS3
      by_cases hle:A+2*bs≤n
      ·have hlez:(A:Int)+2*(bs:Int)≤(n:Int):=by omega
       have hc:=HM.out dk3 wr hds3 HS3.out.self (HL.out dk3 wr HS3.out) A (A+bs) (A+2*bs) (by omega) (by omega) hle (by obtain ⟨q,h1,h2⟩:=HM3.out; exact h2.left h1 (by omega)) (by obtain ⟨q,h1,h2⟩:=HM3.out; have:=h2.right h1; rwa [Nat.min_eq_left hle] at this)
       rw [show ((A+bs:Nat):Int)=(A:Int)+(bs:Int) by omega,show ((A+2*bs:Nat):Int)=(A:Int)+2*(bs:Int) by omega] at hc
       go_wp2_with (go_at_call 269; refine hc.mono ?_; rintro e w' ⟨rfl,hE⟩)
       obtain ⟨e,hE1,hE2,hE3⟩:=hE
       exact ⟨⟨A+2*bs,e,by congr 1 <;> omega,by congr 1 <;> omega,hle,permIn_trans _ _ _ _ _ HP3.out (permIn_mono _ _ _ _ _ _ (by omega) hle (by omega) hE2),(by obtain ⟨q,h1,h2⟩:=HM3.out; exact ⟨q+1,by rw [Nat.add_mul,Nat.one_mul,← h1],h2.step h1 hE2 hE3⟩),HS3.out.trans hE1⟩,by simp [intOf]; omega⟩
      ·have hlez:¬ (A:Int)+2*(bs:Int)≤(n:Int):=by omega
       by_cases hm:A+bs<n
       ·have hmz:(A:Int)+(bs:Int)<(n:Int):=by omega
        have hc:=HM.out dk3 wr hds3 HS3.out.self (HL.out dk3 wr HS3.out) A (A+bs) n (by omega) (by omega) (Nat.le_refl _) (by obtain ⟨q,h1,h2⟩:=HM3.out; exact h2.left h1 (by omega)) (by obtain ⟨q,h1,h2⟩:=HM3.out; have:=h2.right h1; rwa [Nat.min_eq_right (by omega)] at this)
        rw [show ((A+bs:Nat):Int)=(A:Int)+(bs:Int) by omega] at hc
        go_wp2_with (go_at_call 269; refine hc.mono ?_; rintro e w' ⟨rfl,hE⟩)
        obtain ⟨e,hE1,hE2,hE3⟩:=hE
        exact ⟨⟨2*bs,e,by congr 1 <;> omega,by omega,by omega,permIn_trans _ _ _ _ _ HP3.out (permIn_mono _ _ _ _ _ _ (by omega) (Nat.le_refl _) (by omega) hE2),(by obtain ⟨q,h1,h2⟩:=HM3.out; exact h2.fin h1 (by omega) hE2 hE3),HS3.out.trans hE1⟩,by simp [intOf]; omega⟩
       ·have hmz:¬ (A:Int)+(bs:Int)<(n:Int):=by omega
        go_wp2
        exact ⟨⟨2*bs,dk3,by congr 1 <;> omega,by omega,by omega,HP3.out,(by obtain ⟨q,h1,h2⟩:=HM3.out; exact h2.fin h1 (by omega) (permIn_refl _ _ _) (h2.last h1 (by omega))),HS3.out⟩,by simp [intOf]; omega⟩
    ·have hge:¬ (bs:Int)<(n:Int):=by omega
     go_wp2
     go_end0
     refine ⟨rfl,dk2,HB.out.trans HS2.out,HP2.out,?_⟩
     have:=HR2.out 0
     rw [Nat.zero_mul,Nat.zero_add,Nat.min_eq_right (by omega)] at this
     exact this
end
end Go.Proofs.YtmcdjilbkmhfoaaGreat
namespace Go.Proofs.YtmcdjilbkmhfoaaGreat
set_option maxRecDepth 10000
open Go.RowKit
set_option linter.unusedVariables false
set_option linter.unusedSimpArgs false
class Zic {α β:Type} [Enc β] (c:α→List PV) (g:α→β):Prop where
 len:∀ x,(c x).length=Enc.k β
 at_:∀ x (j:Nat) (p:PV),(c x)[j]?=some p→∃ u,(Enc.cells (g x))[j]?=some u∧p=.v u
theorem ZsU {α β:Type} [Enc β] {c:α→List PV} (g:α→β) [hf:Zic c g] {w:World} {S:Nat→Prop} {xs:List α} {x:Value} (hsz:∀ b,S b→b<w.heap.size) (h:RepC w S (.sl (xs.map c)) x):
 ∃ A n,x=.slice A xs.length n∧xs.length≤n∧(xs≠[]→n≤maxLen)∧Rd w w.heap.size A (xs.map g):=by
 generalize hq:PV.sl (xs.map c)=q at h
 cases h with
 | v x h=>cases hq
 | ud=>cases hq
 | un=>cases hq
 | rp=>cases hq
 | fn=>cases hq
 | nil A n=>
  have:xs=[]:=by simpa using hq
  exact ⟨A,n,by rw [this]; rfl,by rw [this]; simp,fun h=>absurd this h,by rw [this]; exact Rd.nil_⟩
 | sl es b off k n u hS hkp hnc hm hes hcc h1 hrr=>
  obtain rfl:xs.map c=es:=by simpa using hq
  refine ⟨_,n,by simp,by simpa using hnc,fun _=>hm,fun hne=>⟨b,off,rfl,hsz b hS,fun t u' hu'=>?_⟩⟩
  have hne':xs≠[]:=fun e=>hne (by rw [e]; rfl)
  have hpos:0<xs.length:=List.length_pos_iff.2 hne'
  have hk1:k=Enc.k β:=((hes 0 (c xs[0]) (by simp [hpos])).symm).trans (hf.len _)
  subst hk1
  have hkp':0<Enc.k β:=hkp
  have ht:=(List.getElem?_eq_some_iff.1 hu').1
  rw [ZeL,List.length_map] at ht
  have hi:t / Enc.k β<xs.length:=by rw [Nat.div_lt_iff_lt_mul hkp']; exact ht
  have hj:=Nat.mod_lt t hkp'
  have e0:t / Enc.k β*Enc.k β+t % Enc.k β=t:=by rw [Nat.mul_comm]; exact Nat.div_add_mod t _
  have e1:(xs.map c)[t / Enc.k β]?=some (c xs[t / Enc.k β]):=by simp [hi]
  have e2:(c xs[t / Enc.k β])[t % Enc.k β]?=some ((c xs[t / Enc.k β])[t % Enc.k β]'(by rw [hf.len]; exact hj)):=List.getElem?_eq_getElem _
  obtain ⟨v,hv,hp⟩:=hf.at_ _ _ _ e2
  have hfl:=Zh4 (xs:=xs.map g) (i:=t / Enc.k β) (x:=g xs[t / Enc.k β]) (by simp [hi]) hv
  rw [e0,hu'] at hfl
  obtain rfl:=Option.some.inj hfl
  have hc:=hcc _ _ _ _ e1 e2
  have hz:=hrr _ _ _ _ e1 e2
  rw [hp] at hz
  have hz':u (t / Enc.k β) (t % Enc.k β)=u':=by
   generalize u (t / Enc.k β) (t % Enc.k β)=z at hz
   cases hz with
   | v _ _=>rfl
  rw [hz'] at hc
  rw [← e0,← Nat.add_assoc]
  exact hc
theorem ZvS {P:Program} {f:FuncId} {args:List PV} {val:Value} (h1:val.oneCell'=true)
 (h:∀ (S:Nat→Prop) (β:Nat→Option Blk) (w:World) (vs:Array Value),(∀ b,S b→b<w.heap.size)→vs.size=args.length→(∀ (i:Nat) (p:PV),args[i]?=some p→∃ x,vs[i]?=some x∧Rep w (E1 S β 0) p x)→
  Calls P f vs w fun e w'=>e=.returned val∧Up w w'):Zev P f args [] (.v val) []:=by
 intro S β w vs hk hl ha
 refine (h S β w vs hk.sz hl ha).mono ?_
 rintro e w' ⟨rfl,hu⟩
 refine ⟨val,E1 S β 0,rfl,⟨⟨hu.os,hu.tape,hu.output,hu.size,fun b hb _=>hu.block b hb⟩,fun b hb=>Nat.lt_of_lt_of_le (hk.sz b hb) hu.size,fun l B hB hz=>?_,hk.inj,hk.used,hk.bu,fun l mb hm=>(by simp at hm),hk.dom,hk.tab⟩,fun b h=>h,fun b h=>.inl h,fun l B _ h=>h,.c (.v _ h1)⟩
 obtain ⟨a,b,c⟩:=hk.own l B hB hz
 exact ⟨a,Nat.lt_of_lt_of_le b hu.size,c⟩
theorem ZxI {vs:Array Value} {x0 x1 x2:Value} (h:vs.size=3) (h0:vs[0]?=some x0) (h1:vs[1]?=some x1) (h2:vs[2]?=some x2):vs=#[x0,x1,x2]:=by
 apply Array.ext (by simp [h])
 intro i hi h3
 have a0:=(Array.getElem?_eq_some_iff.1 h0).2
 have a1:=(Array.getElem?_eq_some_iff.1 h1).2
 have a2:=(Array.getElem?_eq_some_iff.1 h2).2
 match i,hi with
 | 0,_=>simpa using a0
 | 1,_=>simpa using a1
 | 2,_=>simpa using a2
 | i+3,hi=>omega
theorem ZlF {w:World} {E:Env} {a x:Value} (h:Rep w E (.v a) x):x=a:=h.v_inv.1
instance:Zic cInt (id:Int→Int):=⟨fun x=>rfl,fun x j p h=>by
 cases j with
 | zero=>obtain rfl:vi x=p:=by simpa using h
         exact ⟨_,rfl,rfl⟩
 | succ j=>simp [cInt] at h⟩
set_option maxHeartbeats 16000000
def Zfc (i:Int) (j:Int) (c0_:List Zc):Option Bool:=
 (getI c0_ i).bind fun y1=>
 (getI c0_ j).bind fun y2=>
 (Za4 y1 y2).bind fun y3=>
 some (decide (y3<0))
instance (i:Int) (j:Int) (c0_:List Zc):CT Tryz.prog (Zfc i j c0_):=⟨201,[vi i,vi j,.rp [.sl (c0_.map Zg)]],[],fun r=>vb r,fun r=>[],fun H=>by replace H:=H0 H; unfold Zfc at H; exact Zh Tryz.func201 rfl Tryz.ntmps201 Tryz.results201 fun Q hQ hQn=>wk3⟩
end Go.Proofs.YtmcdjilbkmhfoaaGreat
namespace Go.Proofs.YtmcdjilbkmhfoaaGreat
set_option maxRecDepth 10000
open Go.RowKit Go.Lib Go.Sort
set_option linter.unusedVariables false
set_option linter.unusedSimpArgs false
set_option maxRecDepth 100000
set_option maxHeartbeats 4000000
instance:Enc Zc where
 cells x:=[I x.thing,I x.trip.leg,I x.trip.day,I x.weight]
 k:=4
 len _:=rfl
 pos:=by decide
 one:=by simp [Value.oneCell',I]
instance:Enc Ze where
 cells x:=[I x.leg,I x.day]
 k:=2
 len _:=rfl
 pos:=by decide
 one:=by simp [Value.oneCell',I]
instance:Zic Zg (id:Zc→Zc):=⟨fun x=>rfl,fun x j p h=>by
 match j with
 | 0=>obtain rfl:_=p:=Option.some.inj h
      exact ⟨_,rfl,rfl⟩
 | 1=>obtain rfl:_=p:=Option.some.inj h
      exact ⟨_,rfl,rfl⟩
 | 2=>obtain rfl:_=p:=Option.some.inj h
      exact ⟨_,rfl,rfl⟩
 | 3=>obtain rfl:_=p:=Option.some.inj h
      exact ⟨_,rfl,rfl⟩
 | j+4=>simp [Zg] at h⟩
instance:Zic Zs (id:Ze→Ze):=⟨fun x=>rfl,fun x j p h=>by
 match j with
 | 0=>obtain rfl:_=p:=Option.some.inj h
      exact ⟨_,rfl,rfl⟩
 | 1=>obtain rfl:_=p:=Option.some.inj h
      exact ⟨_,rfl,rfl⟩
 | j+2=>simp [Zs] at h⟩
instance:Inhabited Zc:=⟨⟨0,⟨0,0⟩,0⟩⟩
theorem ZlR (a b:Zc):befB a b=true↔a.trip.day<b.trip.day∨(a.trip.day=b.trip.day∧(a.trip.leg<b.trip.leg∨(a.trip.leg=b.trip.leg∧a.thing<b.thing))):=by
 unfold befB
 repeat' split
 all_goals simp only [decide_eq_true_eq]
 all_goals omega
theorem ZlS (a b:Zc):befB a b=false↔¬ (a.trip.day<b.trip.day∨(a.trip.day=b.trip.day∧(a.trip.leg<b.trip.leg∨(a.trip.leg=b.trip.leg∧a.thing<b.thing)))):=by
 rw [← ZlR]; simp
theorem Zmx:SWO befB:=⟨fun x=>(ZlS _ _).2 (by omega),fun x y z h1 h2=>(ZlR _ _).2 (by have:=(ZlR _ _).1 h1; have:=(ZlR _ _).1 h2; omega),fun x y z h1 h2=>(ZlS _ _).2 (by have:=(ZlS _ _).1 h1; have:=(ZlS _ _).1 h2; omega)⟩
theorem ZpJ {b:Nat}:¬ own0 (fun _=>none) b:=by rintro ⟨l,B,h,_⟩; cases h
theorem Zev.valT {P:Program} {f:FuncId} {args:List PV} {val:Value} (h:Zev P f args [] (.v val) []) {w:World} (ht:Tab w (own0 fun _=>none)) {vs:Array Value} (hl:vs.size=args.length) (ha:∀ (i:Nat) (p:PV),args[i]?=some p→∃ x,vs[i]?=some x∧Rep w (E1 (fun b=>b<w.heap.size) (fun _=>none) 0) p x):
 Calls P f vs w fun e w'=>e=.returned val∧Up w w':=by
 have hok:Ok w (own0 fun _=>none) (E1 (fun b=>b<w.heap.size) (fun _=>none) 0) w []:=
  ⟨UpO.refl _ _,fun b h=>h,fun l B h=>(by cases h),fun l l' B B' h=>(by cases h),fun l h=>absurd h (Nat.not_lt_zero l),fun l B h=>(by cases h),fun l mb h=>(by simp at h),fun l B h=>(by cases h),ht⟩
 refine (h (fun b=>b<w.heap.size) (fun _=>none) w vs hok hl ha).mono ?_
 rintro e w' ⟨v,E',rfl,hk,_,_,_,hr⟩
 obtain ⟨rfl,_⟩:=hr.v_inv
 exact ⟨rfl,hk.up.os,hk.up.tape,hk.up.output,hk.up.size,fun b hb=>hk.up.block b hb ZpJ⟩
theorem ZnQ {w w':World} {O O':Nat→Prop} (h:Tab w O) (hu:UpO O' w w') (hO:∀ b,b<w.heap.size→O' b→O b):Tab w' (own0 fun _=>none):=by
 obtain ⟨T,h1,h2⟩:=h
 exact ⟨T,fun b hb=>⟨Nat.lt_of_lt_of_le (h1 b hb).1 hu.size,ZpJ⟩,fun w'' hw''=>h2 w'' fun b hb=>(hw'' b hb).trans (hu.block b (h1 b hb).1 fun h=>(h1 b hb).2 (hO b (h1 b hb).1 h))⟩
theorem ZoM {α β:Type} [Enc β] {c:α→List PV} (g:α→β) [hf:Zic c g] {w:World} {A:Option Addr} {n:Nat} {xs:List α} (h:Rd w w.heap.size A (xs.map g)) (hn:xs.length≤n) (hm:n≤maxLen):RepC w (fun b=>b<w.heap.size) (.sl (xs.map c)) (.slice A xs.length n):=by
 by_cases h0:xs=[]
 ·subst h0; exact .nil _ _
 obtain ⟨b,off,rfl,hb,hc⟩:=h (by simpa using h0)
 have hlen:(xs.map c).length=xs.length:=by simp
 have key:∀ (i:Nat) (cs:List PV) (j:Nat) (p:PV),(xs.map c)[i]?=some cs→cs[j]?=some p→∃ u,w.cell? ⟨b,off+i*Enc.k β+j,none⟩=some u∧u.oneCell'=true∧p=.v u:=by
  intro i cs j p hi hj
  rw [List.getElem?_map] at hi
  obtain ⟨x,hx,rfl⟩:=Option.map_eq_some_iff.1 hi
  obtain ⟨u,hu,hp⟩:=hf.at_ x j p hj
  have hfl:=Zh4 (xs:=xs.map g) (i:=i) (x:=g x) (by rw [List.getElem?_map,hx]; rfl) hu
  exact ⟨u,by rw [Nat.add_assoc]; exact hc _ u hfl,Enc.one _ u (List.mem_of_getElem? hu),hp⟩
 rw [← hlen]
 exact .sl _ b off (Enc.k β) n (fun i j=>(w.cell? ⟨b,off+i*Enc.k β+j,none⟩).getD .nilIface) hb Enc.pos (by rw [hlen]; exact hn) hm
  (fun i cs hi=>by
   rw [List.getElem?_map] at hi
   obtain ⟨x,_,rfl⟩:=Option.map_eq_some_iff.1 hi
   exact hf.len x)
  (fun i cs j p hi hj=>by obtain ⟨u,x1,_⟩:=key i cs j p hi hj; rw [x1]; rfl)
  (fun i cs j p hi hj=>by obtain ⟨u,x1,x2,_⟩:=key i cs j p hi hj; rw [x1]; exact x2)
  (fun i cs j p hi hj=>by obtain ⟨u,x1,x2,rfl⟩:=key i cs j p hi hj; rw [x1]; exact .v u x2)
section
variable {β:Type} [Enc β] [Inhabited β]
theorem Zlo (d:Array β):(flatK Enc.cells (Enc.k β) d).toList=flat d.toList:=by
 apply List.ext_getElem?
 intro t
 have hk:0<Enc.k β:=Enc.pos
 rcases Nat.lt_or_ge t (d.size*Enc.k β) with h | h
 ·have h1:t<(flatK Enc.cells (Enc.k β) d).size:=by rw [size_flatK]; exact h
  have hi:t / Enc.k β<d.size:=by rw [Nat.div_lt_iff_lt_mul hk]; exact h
  have hj:=Nat.mod_lt t hk
  have e0:t / Enc.k β*Enc.k β+t % Enc.k β=t:=by rw [Nat.mul_comm]; exact Nat.div_add_mod t _
  have hc:(Enc.cells d[t / Enc.k β]!)[t % Enc.k β]?=some ((Enc.cells d[t / Enc.k β]!)[t % Enc.k β]'(by rw [Enc.len]; exact hj)):=List.getElem?_eq_getElem _
  have hf:=Zh4 (xs:=d.toList) (i:=t / Enc.k β) (x:=d[t / Enc.k β]!) (by rw [Array.getElem?_toList,getElem!_pos d _ hi]; exact Array.getElem?_eq_getElem hi) hc
  rw [e0] at hf
  rw [hf,Array.getElem?_toList,Array.getElem?_eq_getElem h1,← getElem!_pos,get_flatK _ _ _ _ h]
  rw [getElem!_pos _ _ (by rw [Enc.len]; exact hj)]
 ·rw [List.getElem?_eq_none (by rw [Array.length_toList,size_flatK]; exact h),List.getElem?_eq_none (by rw [ZeL,Array.length_toList]; exact h)]
theorem Zvv {w:World} {B E:Nat} {v:Value} {xs:List β} (h:Own w B E v xs) (h2:0<xs.length):
 ∃ g c,v=.slice (some ⟨g,0,none⟩) xs.length c∧B≤g∧xs.length≤c∧c≤maxLen∧SU (Enc.cells (α:=β)) (Enc.k β) g E (c*Enc.k β) w xs.toArray w:=by
 rcases h.2 with ⟨_,h0⟩ | ⟨g,cap,cur,hv,hB,hg,hnc,hcm,hcs,ht⟩
 ·omega
 refine ⟨g,cap,hv,hB,hnc,hcm,UpO.refl _ _,?_,cur,hg,hcs⟩
 intro t htl
 rw [size_flatK] at htl
 have hfl:(flatK (Enc.cells (α:=β)) (Enc.k β) xs.toArray).toList=flat xs:=by rw [Zlo]
 refine ⟨?_,by simp [World.frozen?,hg]⟩
 rw [Nat.zero_add,cell_of_row w g t cur E (0,0) hg]
 have h1:t<(flatK (Enc.cells (α:=β)) (Enc.k β) xs.toArray).size:=by rw [size_flatK]; exact htl
 have h3:(flat xs)[t]?=some (id (flatK (Enc.cells (α:=β)) (Enc.k β) xs.toArray)[t]!):=by
  rw [← hfl,Array.getElem?_toList,getElem!_pos (flatK (Enc.cells (α:=β)) (Enc.k β) xs.toArray) t h1]
  exact Array.getElem?_eq_getElem h1
 rw [← ht,List.getElem?_take] at h3
 split at h3
 ·rw [← Array.getElem?_toList]; exact h3
 ·cases h3
theorem Zp5 {w0 W:World} {B E g c:Nat} {d:Array β} (h:SU (Enc.cells (α:=β)) (Enc.k β) g E (c*Enc.k β) w0 d W) (hB:B≤g) (hn:d.size≤c) (hm:c≤maxLen):Own W B E (.slice (some ⟨g,0,none⟩) d.size c) d.toList:=by
 obtain ⟨cur,hg,hcs⟩:=h.row
 refine ⟨by rw [ZeL],.inr ⟨g,c,cur,by rw [Array.length_toList],hB,hg,by rw [Array.length_toList]; exact hn,hm,hcs,?_⟩⟩
 rw [← Zlo]
 have hle:d.size*Enc.k β≤c*Enc.k β:=Nat.mul_le_mul_right _ hn
 apply List.ext_getElem?
 intro t
 rw [List.getElem?_take,Array.length_toList]
 split
 ·rename_i ht
  have h1:t<(flatK (Enc.cells (α:=β)) (Enc.k β) d).size:=by rw [size_flatK]; exact ht
  have hh:=(h.hold t h1).1
  rw [Nat.zero_add,cell_of_row W g t cur E (0,0) hg,getElem!_pos (flatK (Enc.cells (α:=β)) (Enc.k β) d) t h1] at hh
  rw [Array.getElem?_toList,Array.getElem?_toList,hh]
  exact (Array.getElem?_eq_getElem h1).symm
 ·rename_i ht
  rw [List.getElem?_eq_none (by rw [Array.length_toList,size_flatK]; omega)]
end
theorem Zh8 {w:World} {E:Env} (x:Value) (h:x.oneCell'=true):Rep w E (.v x) x:=.c (.v x h)
theorem Zwo {g c n Bx:Nat} {w0:World} {O:Nat→Prop} (hx:w0.cell? ⟨Bx,0,none⟩=some (.slice (some ⟨g,0,none⟩) n c)) (hBx:Bx<w0.heap.size) (hne:Bx≠g) (hnc:n≤c) (hm:c≤maxLen) (ht:Tab w0 O) (hO:O g):
 ZhW 201 #[.pointer (some ⟨Bx,0,none⟩)] (Enc.cells (α:=Zc)) 4 befB g 135 (c*4) n w0:=by
 intro d W hS hd i j hi hj
 have hn:d.toList.length=n:=by rw [Array.length_toList,hd]
 have gi:getI d.toList (i:Int)=some d[i]!:=by rw [Zn,Array.getElem?_toList,getElem!_pos d i (by omega)]; exact Array.getElem?_eq_getElem _
 have gj:getI d.toList (j:Int)=some d[j]!:=by rw [Zn,Array.getElem?_toList,getElem!_pos d j (by omega)]; exact Array.getElem?_eq_getElem _
 obtain ⟨v,hv,hvb⟩:=ZmR d[i]! d[j]!
 have H:Zfc (i:Int) (j:Int) d.toList=some (befB d[i]! d[j]!):=by
  unfold Zfc
  rw [gi,Option.bind_some,gj,Option.bind_some,hv,Option.bind_some]
  cases hb:befB d[i]! d[j]! with
  | true=>rw [hb] at hvb; have:=of_decide_eq_false hvb; rw [decide_eq_true (by omega)]
  | false=>rw [hb] at hvb; have:=of_decide_eq_true hvb; rw [decide_eq_false (by omega)]
 have hC:=CT.ok (P:=Tryz.prog) H
 simp only [CT.f,CT.args,CT.m0,CT.res,CT.mem] at hC
 have hcell:W.cell? ⟨Bx,0,none⟩=some (.slice (some ⟨g,0,none⟩) n c):=(hS.oth hBx hne).trans hx
 have hrd:Rd W W.heap.size (some ⟨g,0,none⟩) (d.toList.map id):=by
  have:=(Zp5 (B:=g) hS (Nat.le_refl _) (by omega) hm).rd
  rw [List.map_id]
  exact this
 have hrs:=ZoM (c:=Zg) (id:Zc→Zc) hrd (n:=c) (by omega) hm
 rw [hn] at hrs
 refine (Zev.valT hC (w:=W) (ZnQ ht hS.up fun b _ h=>h ▸ hO) rfl fun idx p hp=>?_).mono ?_
 ·match idx with
  | 0=>obtain rfl:_=p:=Option.some.inj hp
       exact ⟨_,rfl,Zh8 _ rfl⟩
  | 1=>obtain rfl:_=p:=Option.some.inj hp
       exact ⟨_,rfl,Zh8 _ rfl⟩
  | 2=>obtain rfl:_=p:=Option.some.inj hp
       refine ⟨_,rfl,.c (.rp _ Bx 0 (fun _=>.slice (some ⟨g,0,none⟩) n c) (Nat.lt_of_lt_of_le hBx hS.up.size) (fun j p hp=>?_) (fun j p hp=>rfl) fun j p hp=>?_)⟩
       ·match j with
        | 0=>exact hcell
        | j+1=>simp at hp
       ·match j with
        | 0=>obtain rfl:_=p:=Option.some.inj hp
             exact hrs
        | j+1=>simp at hp
  | idx+3=>simp at hp
 ·rintro e w' ⟨rfl,hu⟩
  exact ⟨rfl,hu⟩
noncomputable def bkT:TypeInfo:=(Tryz.prog.info? 37).get (by kernel_rfl)
noncomputable def bkE:TypeInfo:=(Tryz.prog.info? 135).get (by kernel_rfl)
theorem bkK (n:Nat) (h2:2≤n):Lib.swapperK n bkE 25=9:=by
 have a:bkE.hasPointers=false:=by kernel_rfl
 have b:bkE.bytes=32:=by kernel_rfl
 have c:(n == 0)=false:=by simp; omega
 have d:(n == 1)=false:=by simp; omega
 simp [Lib.swapperK,a,b,c,d]
theorem Zr1 (w:World) (os:Array Obj):Up w (grow w os):=⟨rfl,rfl,rfl,by rw [size_grow]; omega,fun b hb=>heap_grow_old w os hb⟩
theorem Zxl {B Bx:Nat} {v:Value} {xs:List Zc} {w:World} {O:Nat→Prop} (ho:Own w B 135 v xs) (hx:w.heap[Bx]?=some (.cells #[v] 37 (0,0))) (hn:xs.length≤1048576) (ht:Tab w O) (hO:∀ b,B≤b→O b):
 Calls Tryz.prog 200 #[.iface 37 v,.func (.func 201) #[] #[.pointer (some ⟨Bx,0,none⟩)]] w fun e w'=>e=.returned (.tuple #[])∧∃ ys,ys.Perm xs∧ys.Pairwise (fun a b=>befB b a=false)∧Own w' B 135 v ys∧UpO (fun b=>B≤b∧b≠Bx) w w':=by
 by_cases h2:2≤xs.length
 case neg=>
  obtain ⟨A,c,rfl,_,_⟩:=ho.form
  have hR:=Tryz.laysGt8
  have key : ∀ f, Tryz.prog.funcs.findIdx? (·.name == "internal/reflectlite" ++ ".Swapper$" ++ toString (Lib.swapperK xs.length bkE 25)) = some f → Calls Tryz.prog 200 #[.iface 37 (.slice A xs.length c), .func (.func 201) #[] #[.pointer (some ⟨Bx, 0, none⟩)]] w fun e w' => e = .returned (.tuple #[]) ∧ ∃ os, w' = grow w os := fun f hf =>
   Any.sort_SliceStable_tiny Tryz.laysGt8 37 135 bkT bkE (by kernel_rfl) (by kernel_rfl) (by kernel_rfl) (by kernel_rfl) 25 (fun _=>by kernel_rfl) A xs.length c (by omega) f hf _ _ _ w
  have key2 : ∃ f, Tryz.prog.funcs.findIdx? (·.name == "internal/reflectlite" ++ ".Swapper$" ++ toString (Lib.swapperK xs.length bkE 25)) = some f := by
   rcases Nat.lt_or_ge 0 xs.length with h | h
   ·rw [show xs.length=1 by omega]
    exact ⟨260,by kernel_rfl⟩
   ·rw [show xs.length=0 by omega]
    exact ⟨259,by kernel_rfl⟩
  obtain ⟨f,hf⟩:=key2
  refine (key f hf).mono ?_
  rintro e w' ⟨rfl,os,rfl⟩
  have hu:=Zr1 w os
  refine ⟨rfl,xs,List.Perm.refl _,?_,ho.up hu,⟨hu.os,hu.tape,hu.output,hu.size,fun b hb _=>hu.block b hb⟩⟩
  match xs,h2 with
  | [],_=>exact .nil
  | [x],_=>simp
  | x::y::l,h2=>simp at h2
 case pos=>
  obtain ⟨g,c,rfl,hB,hnc,hcm,hS⟩:=Zvv ho (by omega)
  have hrow:=hS.row
  have hne:Bx≠g:=by
   rintro rfl
   obtain ⟨cells,h1,_⟩:=hrow
   rw [hx] at h1
   simp at h1
  have hBx:Bx<w.heap.size:=(Array.getElem?_eq_some_iff.1 hx).1
  have hcell:w.cell? ⟨Bx,0,none⟩=some (.slice (some ⟨g,0,none⟩) xs.length c):=by rw [cell_of_row w Bx 0 _ _ (0,0) hx]; rfl
  have hlen:xs.length<1152921504606846976:=by omega
  have hB':sliceBound Tryz.prog 135 bkE 25 (some ⟨g,0,none⟩) xs.length c=#[.slice (some ⟨g,0,none⟩) xs.length c,typeHandle Tryz.prog 135]:=by
   unfold sliceBound; rw [if_neg (swapperK_gt _ _ _ h2)]
  have hsw:SwapSwapsK Tryz.prog 267 #[.slice (some ⟨g,0,none⟩) xs.length c,typeHandle Tryz.prog 135] (Enc.cells (α:=Zc)) 4 g 0 xs.length:=
   swapSwapsK_of_literal false 267 (fun args W=>run_callFunc_extern Tryz.func267 (by kernel_rfl) (by kernel_rfl) (by kernel_rfl) (e:=Extern.ReflectliteSwapper.swap false) (by kernel_rfl) args W) 135 bkE (by kernel_rfl) (Enc.cells (α:=Zc)) 4 (fun _=>rfl) (by kernel_rfl) (fun _=>by kernel_rfl) Enc.one g 0 xs.length c
  have hless:=Zwo (n:=xs.length) hcell hBx hne hnc hcm ht (hO g hB)
  refine Any.sort_SliceStable_of_stable Tryz.laysGt8 37 135 bkT bkE (by kernel_rfl) (by kernel_rfl) (by kernel_rfl) (by kernel_rfl) 25 (fun _=>by kernel_rfl) (some ⟨g,0,none⟩) xs.length c (by omega) 267 (by rw [bkK _ h2]; kernel_rfl) (.func 201) #[] #[.pointer (some ⟨Bx,0,none⟩)] w (fun w'=>∃ ys,ys.Perm xs∧ys.Pairwise (fun a b=>befB b a=false)∧Own w' B 135 (.slice (some ⟨g,0,none⟩) xs.length c) ys∧UpO (fun b=>B≤b∧b≠Bx) w w') ?_
  rw [hB']
  have hu:Up w (stableWorld Tryz.prog Tryz.laysGt8_ren 37 (some ⟨g,0,none⟩) xs.length c w):=by unfold stableWorld; exact Up.al _ (Up.al _ (Up.rfl' w))
  generalize stableWorld Tryz.prog Tryz.laysGt8_ren 37 (some ⟨g,0,none⟩) xs.length c w=w1 at hu ⊢
  have hS1:=hS.more hu
  have hst:=Zp2 (enc:=Enc.cells (α:=Zc)) (k:=4) (fun _=>rfl) 201 #[.pointer (some ⟨Bx,0,none⟩)] 267 #[.slice (some ⟨g,0,none⟩) xs.length c,typeHandle Tryz.prog 135] xs.length hlen hsw Zmx (enters_of Tryz.func201 (by kernel_rfl) rfl) (d:=xs.toArray) (by simp) hS1.self (hless.on hS1)
  refine hst.mono ?_
  rintro e w' ⟨rfl,e,hE1,hE2,hE3⟩
  have hE:=hS1.trans hE1
  have hsz:e.size=xs.length:=by rw [hE2.1]; simp
  have hown:=Zp5 (B:=B) (c:=c) hE hB (by omega) hcm
  rw [hsz] at hown
  refine ⟨rfl,e.toList,?_,?_,hown,⟨hE.up.os,hE.up.tape,hE.up.output,hE.up.size,fun b hb hn=>hE.up.block b hb fun h=>hn ⟨h ▸ hB,fun h'=>hne (h' ▸ h.symm ▸ rfl)⟩⟩⟩
  ·have hp:=hE2.2.2
   rw [← hsz] at hp
   rw [Array.extract_size] at hp
   rw [hsz] at hp
   have h3:xs.toArray.extract 0 xs.length=xs.toArray:=by simp
   rw [h3] at hp
   simpa using hp
  ·rw [List.pairwise_iff_getElem]
   intro i j hi hj hij
   have:=hE3 i j (by omega) hij (by rw [Array.length_toList] at hj; omega)
   rw [getElem!_pos e j (by rw [Array.length_toList] at hj; exact hj),getElem!_pos e i (by rw [Array.length_toList] at hi; exact hi)] at this
   simpa using this
end Go.Proofs.YtmcdjilbkmhfoaaGreat
namespace Go.Proofs.YtmcdjilbkmhfoaaGreat
set_option maxRecDepth 10000
open Go.RowKit
set_option linter.unusedVariables false
set_option linter.unusedSimpArgs false
set_option linter.unusedSectionVars false
abbrev leB (a b:Zc):Prop:=befB b a=false
theorem ZjO {a b:Zc} (h:befB a b=true):befB b a=false:=Go.Sort.SWO.asymmA Zmx h
theorem Zrl {l:List Zc} (hl:l.length≤1048575) (b:Zc) (hs:l.Pairwise leB):Tot (ZeH l b) fun r=>r.length=l.length+1∧r.Perm (l++[b])∧r.Pairwise leB:=by
 unfold ZeH
 refine Tot.bind (P:=fun o:Int=>∃ k:Nat,o=(k:Int)∧k≤l.length∧(∀ i (h:i<l.length),i<k→befB l[i] b=true)∧(∀ h:k<l.length,befB l[k] b=false)) ?_ fun o ho=>?_
 ·refine Tot.loop (fun k s=>∃ i:Nat,s=(i:Int)∧i+k=l.length∧∀ j (h:j<l.length),j<i→befB l[j] b=true) (fun k s hs=>?_) NN l.length 0 ⟨0,rfl,by omega,fun j _ h=>by omega⟩ (by unfold NN; omega)
  obtain ⟨i,rfl,hk,hb⟩:=hs
  unfold ZfC
  refine Tot.cond (fun hd=>?_) fun hd=>Tot.ret ⟨i,rfl,by omega,fun j h h'=>hb j h h',fun h=>by have:=of_decide_eq_false hd; omega⟩
  have hlt:=of_decide_eq_true hd
  have hw:w64 ((i:Int)+1)=((i+1:Nat):Int):=by rw [Zo (by omega)]; omega
  have hil:i<l.length:=by omega
  have hy:getI l (i:Int)=some l[i]:=by rw [Zn]; exact List.getElem?_eq_getElem hil
  rw [hy,Option.bind_some,ZlT,Option.bind_some]
  refine Tot.cond (fun h1=>Tot.ret ⟨k-1,by omega,i+1,hw,by omega,fun j h h'=>?_⟩) fun h1=>Tot.ret ⟨i,rfl,by omega,fun j h h'=>hb j h h',fun _=>h1⟩
  by_cases hji:j=i
  ·subst hji; exact h1
  ·exact hb j h (by omega)
 ·obtain ⟨k,rfl,hk,hbef,hnot⟩:=ho
  have e1:subL l 0 (k:Int)=l.take k:=by unfold subL; simp
  have e2:subL l (k:Int) (l.length:Int)=l.drop k:=by
   unfold subL
   simp only [Int.toNat_natCast]
   rw [List.take_of_length_le (by simp)]
  rw [e1,e2]
  refine Tot.chk (by unfold slOk; exact decide_eq_true (by omega)) ?_
  rw [Zgd (by simp only [List.length_take]; omega),Option.bind_some]
  refine Tot.chk (Zfo (by simp only [List.length_cons,List.length_nil,List.length_take]; omega) (by omega)) (Tot.chk (by unfold slOk; exact decide_eq_true (by omega)) (Tot.chk (Zfo (by simp only [List.length_append,List.length_cons,List.length_nil,List.length_take,List.length_drop]; omega) (by omega)) (Tot.ret ⟨?_,?_,?_⟩)))
  ·simp only [List.length_append,List.length_cons,List.length_nil,List.length_take,List.length_drop]; omega
  ·have h1:(l.take k++[b]++l.drop k).Perm (l.take k++(l.drop k++[b])):=by
    rw [List.append_assoc]
    exact List.Perm.append_left _ List.perm_append_comm
   rw [← List.append_assoc,List.take_append_drop] at h1
   exact h1
  ·have hs1:=List.Pairwise.sublist (List.take_sublist k l) hs
   have hs2:=List.Pairwise.sublist (List.drop_sublist k l) hs
   have hgt:∀ y∈l.drop k,befB y b=false:=fun y hy=>by
    obtain ⟨j,hj,rfl⟩:=List.getElem_of_mem hy
    rw [List.length_drop] at hj
    rw [List.getElem_drop]
    have h0:=hnot (by omega)
    by_cases hj0:j=0
    ·subst hj0; exact h0
    ·have:=List.pairwise_iff_getElem.1 hs k (k+j) (by omega) (by omega) (by omega)
     exact Zmx.ntrans _ _ _ this h0
   have hlt:∀ x∈l.take k,befB x b=true:=fun x hx=>by
    obtain ⟨j,hj,rfl⟩:=List.getElem_of_mem hx
    rw [List.length_take] at hj
    rw [List.getElem_take]
    exact hbef j (by omega) (by omega)
   rw [List.append_assoc,List.pairwise_append]
   refine ⟨hs1,?_,fun x hx y hy=>?_⟩
   ·rw [List.singleton_append,List.pairwise_cons]
    exact ⟨fun y hy=>hgt y hy,hs2⟩
   ·rw [List.singleton_append,List.mem_cons] at hy
    rcases hy with rfl | hy
    ·exact ZjO (hlt x hx)
    ·exact Zmx.ntrans _ _ _ (hgt y hy) (ZjO (hlt x hx))
def ZdR (thing weight:Int) (way:List Ze):List Zc:=way.map fun t=>⟨thing,t,weight⟩
theorem Zpa {n:Za} {l:List Zc} (h:ZZ n l=true):l.Pairwise leB:=List.pairwise_iff_getElem.2 fun i j hi hj hij=>ZjO (ZgU h j i hj hij)
theorem Zmr {n:Za} {d e:List Zc} (hp:d.Perm e) (hd:d.Pairwise leB) (he:e.Pairwise leB) (hb:ZZ n d=true):d=e:=by
 refine List.Perm.eq_of_pairwise (le:=leB) (fun a b ha hb' h1 h2=>?_) hd he hp
 have hb2:=hp.mem_iff.2 hb'
 obtain ⟨i,hi,rfl⟩:=List.getElem_of_mem ha
 obtain ⟨j,hj,rfl⟩:=List.getElem_of_mem hb2
 rcases Nat.lt_trichotomy i j with h | h | h
 ·have:=ZgU hb j i hj h
  have h2':befB d[i] d[j]=false:=h2
  rw [this] at h2'; cases h2'
 ·subst h; rfl
 ·have:=ZgU hb i j hi h
  have h1':befB d[j] d[i]=false:=h1
  rw [this] at h1'; cases h1'
theorem Ztl {n:Za} {d e:List Zc} (hp:d.Perm e) (hd:d.Pairwise leB) (he:e.Pairwise leB):ZZ n d=ZZ n e:=by
 cases h1:ZZ n d with
 | true=>rw [← Zmr hp hd he h1,h1]
 | false=>
  cases h2:ZZ n e with
  | false=>rfl
  | true=>rw [Zmr hp.symm he hd h2,h1] at h2; cases h2
theorem Zhe {n:Za} (hf:Z0 n) {l:List Zc} (hl:l.length≤1048000) (thing weight:Int) {way:List Ze} {d:List Zc} (hp:d.Perm (l++ZdR thing weight way)) (hs:d.Pairwise leB):
 ZN n l thing weight way=some (if ZZ n l=true∧way.length≤20∧ZZ n d=true then (d,true) else (l,false)):=by
 unfold ZN
 rw [Zgd (by omega),Option.bind_some,Zcu hf (by omega),Option.bind_some]
 by_cases hb:ZZ n l=true
 case neg=>
  have hb':ZZ n l=false:=by simpa using hb
  rw [hb',if_neg (fun h=>by cases h.1)]; rfl
 rw [hb]
 by_cases hw:way.length≤20
 case neg=>
  rw [if_neg (fun h=>hw h.2.1),decide_eq_true (show 20<(way.length:Int) by omega)]; rfl
 rw [decide_eq_false (show ¬ 20<(way.length:Int) by omega)]
 obtain ⟨o,ho,ho1,ho2,ho3⟩:Tot (Zj (ZdJ n l thing weight way) NN (0,l)) fun o=>o.length=l.length+way.length∧o.Perm (l++ZdR thing weight way)∧o.Pairwise leB:=by
  refine Tot.loop (fun k s=>∃ i:Nat,s.1=(i:Int)∧i+k=way.length∧s.2.length=l.length+i∧s.2.Perm (l++ZdR thing weight (way.take i))∧s.2.Pairwise leB) (fun k s hs=>?_) NN way.length _ ⟨0,rfl,by omega,rfl,by simp [ZdR],Zpa hb⟩ (by unfold NN; omega)
  obtain ⟨i,hi,hk,hlen,hpp,hss⟩:=hs
  unfold ZdJ
  rw [hi]
  refine Tot.cond (fun hd=>?_) fun hd=>Tot.ret (by
   have:=of_decide_eq_false hd
   have hi2:i=way.length:=by omega
   rw [hi2,List.take_length] at hpp
   exact ⟨by omega,hpp,hss⟩)
  have hlt:=of_decide_eq_true hd
  have hwi:w64 ((i:Int)+1)=((i+1:Nat):Int):=by rw [Zo (by omega)]; omega
  have hil:i<way.length:=by omega
  have hy:getI way (i:Int)=some way[i]:=by rw [Zn]; exact List.getElem?_eq_getElem hil
  rw [hy,Option.bind_some,hwi]
  refine Tot.bind (Zrl (by omega) _ hss) fun r hr=>Tot.ret ⟨k-1,by omega,i+1,rfl,by omega,by simp only; omega,?_,hr.2.2⟩
  refine hr.2.1.trans ?_
  have:ZdR thing weight (way.take (i+1))=ZdR thing weight (way.take i)++[⟨thing,way[i],weight⟩]:=by
   unfold ZdR
   rw [List.take_succ_eq_append_getElem hil,List.map_append]; rfl
  rw [this,← List.append_assoc]
  exact hpp.append_right _
 simp only [Bool.not_true,cond_false,ho,Option.bind_some]
 rw [Zcu hf (by omega),Option.bind_some,Ztl (n:=n) (ho2.trans hp.symm) ho3 hs]
 by_cases hd:ZZ n d=true
 ·rw [hd,if_pos ⟨by trivial,hw,by trivial⟩,Zmr (hp.trans ho2.symm) hs ho3 hd]; rfl
 ·have hd':ZZ n d=false:=by simpa using hd
  rw [hd',if_neg (fun h=>by cases h.2.2)]; rfl
end Go.Proofs.YtmcdjilbkmhfoaaGreat
namespace Go.Proofs.YtmcdjilbkmhfoaaGreat
set_option maxRecDepth 10000
open Go.RowKit Go.Lib Go.Sort
set_option linter.unusedVariables false
set_option linter.unusedSimpArgs false
set_option maxRecDepth 100000
set_option maxHeartbeats 4000000
abbrev SW (w:World):Nat→Prop:=fun b=>b<w.heap.size
theorem Zht {w w':World} {p:PV} {x:Value} (h:RepC w (SW w) p x) (hu:Up w w'):RepC w' (SW w') p x:=
 h.ext (fun b hb=>Nat.lt_of_lt_of_le hb hu.size) (fun b o hb=>hu.cell (p:=⟨b,o,none⟩) hb)
theorem Zev.ownT {P:Program} {α:Type} [Enc α] {c:α→List PV} [hf:Zic c (id:α→α)] {f:FuncId} {args:List PV} {T:TypeId} {r:List α} (h:Zev P f args [] (.ms 0) [some ⟨T,Enc.k α,r.map c⟩]) {w:World} (ht:Tab w (own0 fun _=>none)) {vs:Array Value} (hl:vs.size=args.length) (ha:∀ (i:Nat) (p:PV),args[i]?=some p→∃ x,vs[i]?=some x∧Rep w (E1 (SW w) (fun _=>none) 0) p x):
 Calls P f vs w fun e w'=>∃ v,e=.returned v∧Own w' w.heap.size T v r∧Up w w':=by
 have hok:Ok w (own0 fun _=>none) (E1 (fun b=>b<w.heap.size) (fun _=>none) 0) w []:=
  ⟨UpO.refl _ _,fun b h=>h,fun l B h=>(by cases h),fun l l' B B' h=>(by cases h),fun l h=>absurd h (Nat.not_lt_zero l),fun l B h=>(by cases h),fun l mb h=>(by simp at h),fun l B h=>(by cases h),ht⟩
 refine (h (fun b=>b<w.heap.size) (fun _=>none) w vs hok hl ha).mono ?_
 rintro e w' ⟨v,E',rfl,hk,_,_,_,hr⟩
 refine ⟨v,rfl,?_,⟨hk.up.os,hk.up.tape,hk.up.output,hk.up.size,fun b hb=>hk.up.block b hb ZpJ⟩⟩
 obtain ⟨B,hB,hb,rfl⟩:=hr.ms_inv hk (l:=0) rfl
 have hkk:=hb.k
 have hn:B.n=r.length:=by have:=hb.n; simpa using this
 have hT:=hb.T
 simp only at hkk hT
 cases hz:B.z with
 | true=>
  have h0:r=[]:=by have:=hb.nil hz; simpa using this
  subst h0
  have hsv:B.sv=.slice none 0 0:=by simp [Blk.sv,hz]
  rw [hsv]
  exact World.ownsRow_nil _ _ _ _
 | false=>
  have hsv:B.sv=.slice (some ⟨B.b,0,none⟩) r.length B.c:=by simp [Blk.sv,hz,hn]
  rw [hsv]
  obtain ⟨cells,hc,hcs,hcell⟩:=hb.mem hz
  have hown:=hk.own 0 B hB hz
  have hfr:w.heap.size≤B.b:=by
   rcases hown.1 with h | h
   ·exact absurd h ZpJ
   ·exact h
  refine ⟨by rw [ZeL],.inr ⟨B.b,B.c,cells,rfl,hfr,by rw [hc,hT],by rw [← hn]; exact hb.nc,hb.cm,by rw [hcs,hkk],?_⟩⟩
  apply List.ext_getElem?
  intro t
  have hkp:0<Enc.k α:=Enc.pos
  rcases Nat.lt_or_ge t (r.length*Enc.k α) with hi | hi
  ·rw [List.getElem?_take_of_lt hi,Array.getElem?_toList]
   have hi':t / Enc.k α<r.length:=by rw [Nat.div_lt_iff_lt_mul hkp]; exact hi
   have hj:=Nat.mod_lt t hkp
   have e0:t / Enc.k α*Enc.k α+t % Enc.k α=t:=by rw [Nat.mul_comm]; exact Nat.div_add_mod t _
   have hcl:(c r[t / Enc.k α]).length=Enc.k α:=hf.len _
   obtain ⟨u,hu1,hu2⟩:=hf.at_ r[t / Enc.k α] (t % Enc.k α) _ (List.getElem?_eq_getElem (by rw [hcl]; exact hj))
   obtain ⟨x,x1,_,x3⟩:=hcell (t / Enc.k α) (c r[t / Enc.k α]) (t % Enc.k α) (.v u) (by simp [hi']) (by rw [List.getElem?_eq_getElem (by rw [hcl]; exact hj),hu2])
   obtain ⟨rfl,_⟩:=x3.v_inv
   rw [hkk,e0] at x1
   have hfl:=Zh4 (xs:=r) (i:=t / Enc.k α) (x:=r[t / Enc.k α]) (List.getElem?_eq_getElem hi') hu1
   rw [e0] at hfl
   rw [x1,hfl]
  ·rw [List.getElem?_eq_none (by rw [List.length_take]; omega),List.getElem?_eq_none (by rw [ZeL]; omega)]
theorem Zzb:ElT Tryz.prog 37 135 (Enc.k Zc) 32:=ElT.mk' (z:=.agg #[I 0,I 0,I 0,I 0]) Tryz.underlying37 (by kernel_rfl) rfl
section
variable {n:Za} (hf:Z0 n) {w:World} {O:Nat→Prop} (ht:Tab w O) {v0 v1:Value} (h0:RepC w (SW w) (.sl (n.legs.map cLeg)) v0) (h1:RepC w (SW w) (.sl (n.off.map cInt)) v1)
include hf ht h0 h1
theorem Zvd {W:World} (hu:Up w W) {xs:List Zc} (hx:xs.length≤1048576) {lv:Value} (hl:RepC W (SW W) (.sl (xs.map Zg)) lv):
 Calls Tryz.prog 139 #[.agg #[v0,v1,I n.change],lv] W fun e w'=>e=.returned (.bool (ZZ n xs))∧Up W w':=by
 have o0:=h0.one (by simp) (by simp)
 have o1:=h1.one (by simp) (by simp)
 have hC:=CT.ok (P:=Tryz.prog) (Zh5 hf hx)
 simp only [CT.f,CT.args,CT.m0,CT.res,CT.mem] at hC
 refine Zev.valT hC (ZnQ ht (O':=fun _=>False) ⟨hu.os,hu.tape,hu.output,hu.size,fun b hb _=>hu.block b hb⟩ fun b _ h=>h.elim) rfl fun i p hp=>?_
 match i with
 | 0=>
  obtain rfl:_=p:=Option.some.inj hp
  refine ⟨_,rfl,.ag _ _ rfl (fun j x hx=>?_) fun j p x hp hx=>?_⟩
  ·match j with
   | 0=>obtain rfl:_=x:=Option.some.inj hx
        exact o0
   | 1=>obtain rfl:_=x:=Option.some.inj hx
        exact o1
   | 2=>obtain rfl:_=x:=Option.some.inj hx
        rfl
   | j+3=>simp at hx
  ·match j with
   | 0=>obtain rfl:_=x:=Option.some.inj hx
        obtain rfl:_=p:=Option.some.inj hp
        exact .c (Zht h0 hu)
   | 1=>obtain rfl:_=x:=Option.some.inj hx
        obtain rfl:_=p:=Option.some.inj hp
        exact .c (Zht h1 hu)
   | 2=>obtain rfl:_=x:=Option.some.inj hx
        obtain rfl:_=p:=Option.some.inj hp
        exact Zh8 _ rfl
   | j+3=>simp at hx
 | 1=>
  obtain rfl:_=p:=Option.some.inj hp
  exact ⟨_,rfl,.c hl⟩
 | i+2=>simp at hp
omit hf h0 h1 in
theorem ZrC {W:World} (hu:Up w W) {xs:List Zc} (hx:xs.length≤1048576) {lv:Value} (hl:RepC W (SW W) (.sl (xs.map Zg)) lv):
 Calls Tryz.prog 169 #[lv] W fun e w'=>∃ v,e=.returned v∧Own w' W.heap.size 135 v xs∧Up W w':=by
 have hm:Zbg xs=some xs:=by
  unfold Zbg
  simp only [List.length_nil,chk0 hx (show 32≤1024 by omega),Option.bind_some,List.nil_append]
 have hC:=CT.ok (P:=Tryz.prog) hm
 simp only [CT.f,CT.args,CT.m0,CT.res,CT.mem] at hC
 refine Zev.ownT hC (ZnQ ht (O':=fun _=>False) ⟨hu.os,hu.tape,hu.output,hu.size,fun b hb _=>hu.block b hb⟩ fun b _ h=>h.elim) rfl fun i p hp=>?_
 match i with
 | 0=>
  obtain rfl:_=p:=Option.some.inj hp
  exact ⟨_,rfl,.c hl⟩
 | i+1=>simp at hp
end
set_option linter.unusedSectionVars false
theorem ZbE {w w':World} {b o:Nat} {v:Value} (h:w.cell? ⟨b,o,none⟩=some v) (hb:b<w.heap.size) (hu:Up w w'):w'.cell? ⟨b,o,none⟩=some v:=(hu.cell (p:=⟨b,o,none⟩) hb).trans h
theorem Zty {w W:World} {O:Nat→Prop} (h:Tab w O) (hu:Up w W) {B:Nat} (hB:w.heap.size≤B):Tab W (fun b=>B≤b):=by
 obtain ⟨T,h1,h2⟩:=h
 exact ⟨T,fun b hb=>⟨Nat.lt_of_lt_of_le (h1 b hb).1 hu.size,fun h=>by have:=(h1 b hb).1; omega⟩,fun w'' hw''=>h2 w'' fun b hb=>(hw'' b hb).trans (hu.block b (h1 b hb).1)⟩
theorem Zvu {w:World} {B Bx:Nat} {v v':Value} {xs:List Zc} (h:Own w B 135 v xs) (hx:w.heap[Bx]?=some (.cells #[v'] 37 (0,0))):v.ownBlock≠some Bx:=by
 rcases h.2 with ⟨hv,_⟩ | ⟨g,cap,cur,hv,hB,hg,_⟩
 ·rw [hv]; simp [Value.ownBlock]
 ·rw [hv]
  intro e
  have:g=Bx:=by simpa [Value.ownBlock] using e
  subst this
  rw [hg] at hx
  simp at hx
section
variable {n:Za} (hf:Z0 n) {w:World} {O:Nat→Prop} (ht:Tab w O) {v0 v1:Value} (h0:RepC w (SW w) (.sl (n.legs.map cLeg)) v0) (h1:RepC w (SW w) (.sl (n.off.map cInt)) v1)
 {l:List Zc} (hl:l.length≤1048000) {lv:Value} (hlr:RepC w (SW w) (.sl (l.map Zg)) lv) (thing weight:Int) {way:List Ze} (hwl:way.length≤1048576) {A:Option Addr} {wn:Nat} (hwr:Rd w w.heap.size A way)
include hf ht h0 h1 hl hlr hwl hwr
theorem ZvR (hno:¬ (ZZ n l=true∧way.length≤20)):
 Calls Tryz.prog 135 #[.agg #[v0,v1,I n.change],lv,I thing,I weight,.slice A way.length wn] w fun e w'=>∃ v,e=.returned (.tuple #[v,.bool false])∧Own w' w.heap.size 135 v l∧Up w w':=by
 have hA:=fun (W:World) (hu:Up w W)=>Zvd hf ht h0 h1 hu (xs:=l) (by omega) (Zht hlr hu)
 have hC:=fun (W:World) (hu:Up w W)=>ZrC ht hu (xs:=l) (by omega) (Zht hlr hu)
 have HA:Hid _:=hA
 have HC:Hid _:=hC
 clear hA hC hf ht h0 h1 hlr hwr
 by_cases hb:ZZ n l=true
 ·have h20:(20:Int)<(way.length:Int):=by
   rcases Nat.lt_or_ge 20 way.length with h | h
   ·omega
   ·exact absurd ⟨hb,h⟩ hno
  have Hb:Hid (ZZ n l=true):=hb
  clear hno hb
  go_enter Tryz.func135,Tryz.ntmps135
  go_wp2_with (first
   | (go_at_call 139; refine (HA.out _ (by (repeat (first | exact Up.rfl' _ | (refine Up.al _ ?_) | (refine Up.dr _ ?_) | (refine Up.dr1 ?_) | (refine Up.sc ?_ (by first | exact Nat.le_refl _ | (simp; done) | omega) _) | (refine Up.step (by assumption) ?_))))).mono ?_; rintro e w1 ⟨rfl,hu1⟩; rw [Hb.out])
   | (go_at_call 169; refine (HC.out _ (by (repeat (first | exact Up.rfl' _ | (refine Up.al _ ?_) | (refine Up.dr _ ?_) | (refine Up.dr1 ?_) | (refine Up.sc ?_ (by first | exact Nat.le_refl _ | (simp; done) | omega) _) | (refine Up.step (by assumption) ?_))))).mono ?_; rintro e w2 ⟨v2,rfl,ho2,hu2⟩))
  go_ret2
  exact ⟨v2,rfl,ho2.down (by (repeat (first | exact Up.rfl' _ | (refine Up.al _ ?_) | (refine Up.dr _ ?_) | (refine Up.dr1 ?_) | (refine Up.sc ?_ (by first | exact Nat.le_refl _ | (simp; done) | omega) _) | (refine Up.step (by assumption) ?_)))),by (repeat (first | exact Up.rfl' _ | (refine Up.al _ ?_) | (refine Up.dr _ ?_) | (refine Up.dr1 ?_) | (refine Up.sc ?_ (by first | exact Nat.le_refl _ | (simp; done) | omega) _) | (refine Up.step (by assumption) ?_)))⟩
 ·have hb':ZZ n l=false:=by simpa using hb
  have Hb:Hid (ZZ n l=false):=hb'
  clear hno hb hb'
  go_enter Tryz.func135,Tryz.ntmps135
  go_wp2_with (first
   | (go_at_call 139; refine (HA.out _ (by (repeat (first | exact Up.rfl' _ | (refine Up.al _ ?_) | (refine Up.dr _ ?_) | (refine Up.dr1 ?_) | (refine Up.sc ?_ (by first | exact Nat.le_refl _ | (simp; done) | omega) _) | (refine Up.step (by assumption) ?_))))).mono ?_; rintro e w1 ⟨rfl,hu1⟩; rw [Hb.out])
   | (go_at_call 169; refine (HC.out _ (by (repeat (first | exact Up.rfl' _ | (refine Up.al _ ?_) | (refine Up.dr _ ?_) | (refine Up.dr1 ?_) | (refine Up.sc ?_ (by first | exact Nat.le_refl _ | (simp; done) | omega) _) | (refine Up.step (by assumption) ?_))))).mono ?_; rintro e w2 ⟨v2,rfl,ho2,hu2⟩))
  go_ret2
  exact ⟨v2,rfl,ho2.down (by (repeat (first | exact Up.rfl' _ | (refine Up.al _ ?_) | (refine Up.dr _ ?_) | (refine Up.dr1 ?_) | (refine Up.sc ?_ (by first | exact Nat.le_refl _ | (simp; done) | omega) _) | (refine Up.step (by assumption) ?_)))),by (repeat (first | exact Up.rfl' _ | (refine Up.al _ ?_) | (refine Up.dr _ ?_) | (refine Up.dr1 ?_) | (refine Up.sc ?_ (by first | exact Nat.le_refl _ | (simp; done) | omega) _) | (refine Up.step (by assumption) ?_)))⟩
theorem ZtT (hb:ZZ n l=true) (h20:way.length≤20):
 Calls Tryz.prog 135 #[.agg #[v0,v1,I n.change],lv,I thing,I weight,.slice A way.length wn] w fun e w'=>∃ v ys ok,e=.returned (.tuple #[v,.bool ok])∧Own w' w.heap.size 135 v ys∧Up w w'∧ZN n l thing weight way=some (ys,ok):=by
 have hlb:=(Zav hb).2
 have hA:=fun (W:World) (hu:Up w W) (xs:List Zc) (hx:xs.length≤1048576) (lv:Value) (hl:RepC W (SW W) (.sl (xs.map Zg)) lv)=>Zvd hf ht h0 h1 hu (xs:=xs) hx hl
 have hC:=fun (W:World) (hu:Up w W)=>ZrC ht hu (xs:=l) (by omega) (Zht hlr hu)
 have HA:Hid _:=hA
 have HC:Hid _:=hC
 have HL:Hid (∀ W,Up w W→RepC W (SW W) (.sl (l.map Zg)) lv):=fun W hu=>Zht hlr hu
 have HW:Hid (Rd w w.heap.size A way):=hwr
 have HF:Hid (Z0 n):=hf
 have HT:Hid (Tab w O):=ht
 have Hb:Hid (ZZ n l=true):=hb
 have h20z:¬ (20:Int)<(way.length:Int):=by omega
 clear hA hC hf ht h0 h1 hlr hwr hb
 go_enter Tryz.func135,Tryz.ntmps135
 go_wp2_with (first
  | (go_at_call 139; refine (HA.out _ (by (repeat (first | exact Up.rfl' _ | (refine Up.al _ ?_) | (refine Up.dr _ ?_) | (refine Up.dr1 ?_) | (refine Up.sc ?_ (by first | exact Nat.le_refl _ | (simp; done) | omega) _) | (refine Up.step (by assumption) ?_)))) l (by omega) lv (HL.out _ (by (repeat (first | exact Up.rfl' _ | (refine Up.al _ ?_) | (refine Up.dr _ ?_) | (refine Up.dr1 ?_) | (refine Up.sc ?_ (by first | exact Nat.le_refl _ | (simp; done) | omega) _) | (refine Up.step (by assumption) ?_)))))).mono ?_; rintro e w1 ⟨rfl,hu1⟩; rw [Hb.out])
  | (go_at_call 169; refine (HC.out _ (by (repeat (first | exact Up.rfl' _ | (refine Up.al _ ?_) | (refine Up.dr _ ?_) | (refine Up.dr1 ?_) | (refine Up.sc ?_ (by first | exact Nat.le_refl _ | (simp; done) | omega) _) | (refine Up.step (by assumption) ?_))))).mono ?_; rintro e w2 ⟨v2,rfl,ho2,hu2⟩; obtain ⟨A2,c2,rfl,hc2,_⟩:=ho2.form))
 have hub:Up (w.alloc (.cells #[v0,v1,I n.change] 35)) w2:=by (repeat (first | exact Up.rfl' _ | (refine Up.al _ ?_) | (refine Up.dr _ ?_) | (refine Up.dr1 ?_) | (refine Up.sc ?_ (by first | exact Nat.le_refl _ | (simp; done) | omega) _) | (refine Up.step (by assumption) ?_)))
 have hown:Own w2 (w.heap.size+1) 135 (.slice A2 l.length c2) l:=by
  have:=ho2.down (w0:=w.alloc (.cells #[v0,v1,I n.change] 35)) (by (repeat (first | exact Up.rfl' _ | (refine Up.al _ ?_) | (refine Up.dr _ ?_) | (refine Up.dr1 ?_) | (refine Up.sc ?_ (by first | exact Nat.le_refl _ | (simp; done) | omega) _) | (refine Up.step (by assumption) ?_))))
  simpa using this
 have HUB:=Lib.hid hub
 have HO:=Lib.hid hown
 clear ho2 hc2 hown
 go_loopw [30] (fun vi wr=>∃ (i:Nat) (v:Value),vi=.int .i64 i∧i≤way.length∧Own wr (w.heap.size+1) 135 v (l++ZdR thing weight (way.take i))∧wr.heap[w2.heap.size]?=some (.cells #[v] 37 (0,0))∧Up (w.alloc (.cells #[v0,v1,I n.change] 35)) wr) (fun vi _=>way.length-(intOf vi).toNat)
 case atStart=>
  refine ⟨0,_,by go_num,by omega,?_,heap_alloc_new _ _,Up.al _ HUB.out⟩
  simp only [List.take_zero,ZdR,List.map_nil,List.append_nil]
  exact HO.out.up (Up.al _ (Up.rfl' _))
 case round=>
  obtain ⟨i,v,rfl,hi,hv,hx,hwr⟩:=hrel
  obtain ⟨A3,c3,rfl,hc3,hm3⟩:=hv.form
  have hnl:(l++ZdR thing weight (way.take i)).length=l.length+i:=by simp [ZdR]; omega
  rw [hnl] at hv hx
  have hcx:wr.cell? ⟨w2.heap.size,0,none⟩=some (.slice A3 (l.length+i) c3):=by rw [cell_of_row wr _ 0 _ _ (0,0) hx]; rfl
  have hz:w2.heap.size<wr.heap.size:=(Array.getElem?_eq_some_iff.1 hx).1
  have hz1:wr.heap.size≠w2.heap.size:=by omega
  have hz2:w2.heap.size≠wr.heap.size:=by omega
  have HV:=Lib.hid hv
  have HX:=Lib.hid hx
  have HWR:=Lib.hid hwr
  have HNL:=Lib.hid hnl
  clear hv hx hwr
  clear hnl hc3 hm3
  by_cases hlt:i<way.length
  ·obtain ⟨b,off,rfl,hbb,hcc⟩:=(HW.out.up (Up.step (w.alloc (.cells #[v0,v1,I n.change] 35) |> fun _=>HWR.out) (Up.al _ (Up.rfl' w)))).at_ (List.getElem?_eq_getElem hlt)
   have d0:wr.cell? ⟨b,off+i*2,none⟩=some (I way[i].leg):=hcc 0 _ rfl
   have d1:wr.cell? ⟨b,off+i*2+1,none⟩=some (I way[i].day):=hcc 1 _ rfl
   clear hcc
   have hrd1:Rd ((wr.alloc (.cells #[I way[i].leg,I way[i].day] 55)).alloc (.cells #[I thing,I way[i].leg,I way[i].day,I weight] 135)) (wr.heap.size+2) (some ⟨wr.heap.size+1,0,none⟩) [(⟨thing,way[i],weight⟩:Zc)]:=by
    have e:(wr.alloc (.cells #[I way[i].leg,I way[i].day] 55)).heap.size=wr.heap.size+1:=by simp
    have h:=Rd.one (wr.alloc (.cells #[I way[i].leg,I way[i].day] 55)) 135 (⟨thing,way[i],weight⟩:Zc) (wr.heap.size+2) (by rw [e]; omega)
    rw [e] at h
    exact h
   have HR1:=Lib.hid hrd1
   clear hrd1
   have hlen:=HNL.out
   have hsz:w.heap.size+1≤wr.heap.size:=by have:=HWR.out.size; simpa using this
   go_wp2_with (at_builtin; refine ZW Zzb rfl (.tmp 34) (.tmp 39) rfl (base:=w.heap.size+1) (ys:=l++ZdR thing weight (way.take i)) (xs:=[(⟨thing,way[i],weight⟩:Zc)]) (by rfl) (HV.out.up (by (repeat (first | exact Up.rfl' _ | (refine Up.al _ ?_) | (refine Up.dr _ ?_) | (refine Up.dr1 ?_) | (refine Up.sc ?_ (by first | exact Nat.le_refl _ | (simp; done) | omega) _) | (refine Up.step (by assumption) ?_))))) 1 (by rfl) rfl HR1.out (by simp only [List.length_cons,List.length_nil]; omega) (by unfold maxLen; simp only [List.length_cons,List.length_nil]; omega) (by simp; omega) ?_; intro v' w3 ho3 hg3 _ hu3; refine Hid.out ?_)
   have hx3:w3.heap[w2.heap.size]?=some (.cells #[.slice A3 (l.length+i) c3] 37 (0,0)):=by
    rw [hg3.block _ (by simp; omega) (fun e=>Zvu HV.out HX.out e.symm)]
    exact ((Up.al _ (Up.al _ (Up.rfl' wr))).block _ hz).trans HX.out
   obtain ⟨A4,c4,rfl,hc4,hm4⟩:=ho3.form
   have hl4:(l++ZdR thing weight (way.take i)++[(⟨thing,way[i],weight⟩:Zc)]).length=l.length+(i+1):=by simp [ZdR]; omega
   rw [hl4] at ho3 ⊢
   clear hl4
   have hnews:ZdR thing weight (way.take (i+1))=ZdR thing weight (way.take i)++[⟨thing,way[i],weight⟩]:=by
    unfold ZdR
    rw [List.take_succ_eq_append_getElem hlt,List.map_append]; rfl
   have hcell3:w3.cell? ⟨w2.heap.size,0,none⟩=some (.slice A3 (l.length+i) c3):=by rw [cell_of_row w3 _ 0 _ _ (0,0) hx3]; rfl
   have hfr3:w3.frozen? ⟨w2.heap.size,0,none⟩=false:=by simp [World.frozen?,hx3]
   have hwr3:Up (w.alloc (.cells #[v0,v1,I n.change] 35)) w3:=hu3 _ (by simp) (Up.al _ (Up.al _ HWR.out))
   have HX3:=Lib.hid hx3
   have HO3:=Lib.hid ho3
   have HN:=Lib.hid hnews
   have HW3:=Lib.hid hwr3
   clear hx3 ho3 hg3 hu3 hnews hwr3 hc4 hm4 hlen
   refine Lib.hid ?_
   go_wp2
   refine ⟨⟨i+1,_,by go_num,by omega,?_,heap_setCell_same w3 _ 0 _ _ _ HX3.out,Up.sc HW3.out (by have:=HUB.out.size; simp at this ⊢; omega) _⟩,by simp [intOf]; omega⟩
   rw [HN.out,← List.append_assoc]
   exact HO3.out.grown (row:=some w2.heap.size) ⟨rfl,rfl,rfl,by simp,fun k hk hne=>heap_setCell_other _ _ _ _ (fun e=>hne (by rw [e]))⟩ (.inr (Zvu HO3.out HX3.out))
  ·have hie:i=way.length:=by omega
   subst hie
   have hst:=Zxl HV.out HX.out (by rw [HNL.out]; omega) (Zty HT.out (Up.step HWR.out (Up.al _ (Up.rfl' w))) (by omega)) (fun b h=>h)
   have hge:¬ (way.length:Int)<(way.length:Int):=by omega
   go_wp2_with (go_at_call 200; refine hst.mono ?_; rintro e w4 ⟨rfl,ys,hp,hs,ho4,hu4⟩; refine Hid.out ?_)
   rw [List.take_length] at hp
   have hyl:ys.length=l.length+way.length:=by rw [hp.length_eq]; simp [ZdR]
   have hsp:=Zhe HF.out hl thing weight hp hs
   have hup4:Up (w.alloc (.cells #[v0,v1,I n.change] 35)) w4:=by
    have h:=HWR.out
    exact ⟨hu4.os.trans h.os,hu4.tape.trans h.tape,hu4.output.trans h.output,Nat.le_trans h.size hu4.size,fun b hb=>(hu4.block b (Nat.lt_of_lt_of_le hb h.size) (fun hh=>by simp at hb; omega)).trans (h.block b hb)⟩
   have e0:w4.cell? ⟨w.heap.size,0,none⟩=some v0:=ZbE (by simp) (by simp) hup4
   have e1:w4.cell? ⟨w.heap.size,1,none⟩=some v1:=ZbE (by simp) (by simp) hup4
   have e2:w4.cell? ⟨w.heap.size,2,none⟩=some (I n.change):=ZbE (by simp) (by simp) hup4
   have ex:w4.heap[w2.heap.size]?=some (.cells #[.slice A3 (l.length+way.length) c3] 37 (0,0)):=(hu4.block _ hz (fun hh=>hh.2 rfl)).trans HX.out
   have exc:w4.cell? ⟨w2.heap.size,0,none⟩=some (.slice A3 (l.length+way.length) c3):=by rw [cell_of_row w4 _ 0 _ _ (0,0) ex]; rfl
   have hrp:RepC w4 (SW w4) (.sl (ys.map Zg)) (.slice A3 (l.length+way.length) c3):=by
    rw [← hyl] at ho4 ⊢
    obtain ⟨A5,c5,e5,h5,h6⟩:=ho4.form
    obtain ⟨rfl,rfl⟩:A3=A5∧c3=c5:=by simpa using e5
    exact ZoM (c:=Zg) id (by rw [List.map_id]; exact ho4.rd) h5 h6
   have hupw:Up w w4:=Up.step hup4 (Up.al _ (Up.rfl' w))
   have hA:=HA.out w4 hupw ys (by omega) _ hrp
   have HSP:=Lib.hid hsp
   have HO4:=Lib.hid ho4
   have HUP:=Lib.hid hup4
   have HUPW:=Lib.hid hupw
   have HZ4:Hid (w2.heap.size<w4.heap.size):=Nat.lt_of_lt_of_le hz hu4.size
   clear hst hp hs ho4 hu4 hyl hsp hup4 ex hrp hupw
   refine Lib.hid ?_
   cases hby:ZZ n ys with
   | true=>
    rw [hby] at hA
    have HBY:=Lib.hid hby
    clear hby
    go_wp2_with (first
     | (go_at_call 139; refine hA.mono ?_; rintro e w5 ⟨rfl,hu5⟩; have exc5:=ZbE exc HZ4.out hu5))
    go_ret2
    exact ⟨_,ys,true,rfl,(HO4.out.more (by omega)).up hu5,Up.step hu5 (Up.step HUP.out (Up.al _ (Up.rfl' w))),by rw [HSP.out,if_pos ⟨Hb.out,h20,HBY.out⟩]⟩
   | false=>
    rw [hby] at hA
    have HBY:=Lib.hid hby
    clear hby
    go_wp2_with (first
     | (go_at_call 139; refine hA.mono ?_; rintro e w5 ⟨rfl,hu5⟩)
     | (go_at_call 169; refine (HC.out _ (Up.step hu5 HUPW.out)).mono ?_; rintro e w6 ⟨v6,rfl,ho6,hu6⟩))
    go_ret2
    exact ⟨v6,l,false,rfl,ho6.down (Up.step hu5 HUPW.out),Up.step hu6 (Up.step hu5 HUPW.out),by rw [HSP.out,if_neg (fun h=>by rw [HBY.out] at h; cases h.2.2)]⟩
end
end Go.Proofs.YtmcdjilbkmhfoaaGreat
namespace Go.Proofs.YtmcdjilbkmhfoaaGreat
set_option maxRecDepth 10000
open Go.RowKit Go.Lib
set_option linter.unusedVariables false
set_option linter.unusedSimpArgs false
def fitB (n:Za):Bool:=decide (n.legs.length≤1048576) && decide (n.off.length≤1048576) && n.legs.all fun l=>decide (l.from_.size≤B60) && decide (l.to_.size≤B60)
theorem Zim {n:Za}:fitB n=true↔Z0 n:=by
 unfold fitB
 simp only [Bool.and_eq_true,decide_eq_true_iff,List.all_eq_true]
 exact ⟨fun h=>⟨h.1.1,h.1.2,fun l hl=>h.2 l hl⟩,fun h=>⟨⟨h.legs,h.off⟩,fun l hl=>h.leg l hl⟩⟩
def Za7 (n:Za) (l:List Zc) (thing:Int) (weight:Int) (way:List Ze):Option ((List Zc) × Bool):=
 if fitB n=true∧l.length≤1048000∧way.length≤1048576 then ZN n l thing weight way else none
theorem arr5 {vs:Array Value} {x0 x1 x2 x3 x4:Value} (h:vs.size=5) (h0:vs[0]?=some x0) (h1:vs[1]?=some x1) (h2:vs[2]?=some x2) (h3:vs[3]?=some x3) (h4:vs[4]?=some x4):vs=#[x0,x1,x2,x3,x4]:=by
 apply Array.ext (by simp [h])
 intro i hi hj
 have a0:=(Array.getElem?_eq_some_iff.1 h0).2
 have a1:=(Array.getElem?_eq_some_iff.1 h1).2
 have a2:=(Array.getElem?_eq_some_iff.1 h2).2
 have a3:=(Array.getElem?_eq_some_iff.1 h3).2
 have a4:=(Array.getElem?_eq_some_iff.1 h4).2
 match i,hi with
 | 0,_=>simpa using a0
 | 1,_=>simpa using a1
 | 2,_=>simpa using a2
 | 3,_=>simpa using a3
 | 4,_=>simpa using a4
 | i+5,hi=>omega
theorem Zky (n:Za) (l:List Zc) (thing:Int) (weight:Int) (way:List Ze) {r:(List Zc) × Bool} (H:Za7 n l thing weight way=some r):Zev Tryz.prog 135 [.ag (Zr n),.sl (l.map Zg),vi thing,vi weight,.sl (way.map Zs)] [] (.tu [.ms 0,vb r.2]) [some ⟨135,4,r.1.map Zg⟩]:=by
 unfold Za7 at H
 split at H
 case isFalse=>cases H
 rename_i hok
 obtain ⟨hf,hln,hwn⟩:=hok
 have hf:=Zim.1 hf
 intro S β w vs hk hl ha
 obtain ⟨x0,q0,r0⟩:=ha 0 _ rfl
 obtain ⟨x1,q1,r1⟩:=ha 1 _ rfl
 obtain ⟨x2,q2,r2⟩:=ha 2 _ rfl
 obtain ⟨x3,q3,r3⟩:=ha 3 _ rfl
 obtain ⟨x4,q4,r4⟩:=ha 4 _ rfl
 obtain rfl:=arr5 hl q0 q1 q2 q3 q4
 obtain rfl:=ZlF r2
 obtain rfl:=ZlF r3
 obtain ⟨us,rfl,hul,hu1,hur⟩:=r0.ag_inv
 have hul':us.size=3:=hul
 have z0:us[0]?=some us[0]:=Array.getElem?_eq_getElem (by omega)
 have z1:us[1]?=some us[1]:=Array.getElem?_eq_getElem (by omega)
 have z2:us[2]?=some us[2]:=Array.getElem?_eq_getElem (by omega)
 have hus:us=#[us[0],us[1],us[2]]:=ZxI hul' z0 z1 z2
 have w0:=(hur 0 (.sl (n.legs.map cLeg)) _ rfl z0).sl_inv
 have w1:=(hur 1 (.sl (n.off.map cInt)) _ rfl z1).sl_inv
 have w2:=ZlF (hur 2 (vi n.change) _ rfl z2)
 have w3:=r1.sl_inv
 have w4:=r4.sl_inv
 have up:∀ {p:PV} {x:Value},RepC w S p x→RepC w (SW w) p x:=fun h=>h.ext (fun b hb=>hk.sz b hb) fun _ _ _=>rfl
 obtain ⟨A,wn,rfl,_,_,hrd⟩:=ZsU (id:Ze→Ze) (c:=Zs) hk.sz w4
 rw [List.map_id] at hrd
 have hmain:Calls Tryz.prog 135 #[.agg #[us[0],us[1],I n.change],x1,I thing,I weight,.slice A way.length wn] w fun e w'=>∃ v ys ok,e=.returned (.tuple #[v,.bool ok])∧Own w' w.heap.size 135 v ys∧Up w w'∧ZN n l thing weight way=some (ys,ok):=by
  by_cases hno:ZZ n l=true∧way.length≤20
  ·exact ZtT hf hk.tab (up w0) (up w1) hln (up w3) thing weight hwn hrd hno.1 hno.2
  ·refine (ZvR hf hk.tab (up w0) (up w1) hln (up w3) thing weight hwn hrd hno).mono ?_
   rintro e w' ⟨v,rfl,ho,hu⟩
   refine ⟨v,l,false,rfl,ho,hu,?_⟩
   unfold ZN
   rw [Zgd (by omega),Option.bind_some,Zcu hf (by omega),Option.bind_some]
   by_cases hb:ZZ n l=true
   ·rw [hb,decide_eq_true (show 20<(way.length:Int) by
     rcases Nat.lt_or_ge 20 way.length with h | h
     ·omega
     ·exact absurd ⟨hb,h⟩ hno)]; rfl
   ·have hb':ZZ n l=false:=by simpa using hb
    rw [hb']; rfl
 rw [hus,w2]
 refine hmain.mono ?_
 rintro e w' ⟨v,ys,ok,rfl,ho,hu,hsp⟩
 rw [hsp] at H
 obtain rfl:=Option.some.inj H
 obtain ⟨E',h1,h2,h3,h4,h5⟩:=Zku (c:=Zg) hk ho hu (fun x=>⟨rfl,fun j p hj=>by
  obtain ⟨u,hu1,hu2⟩:=Zic.at_ (c:=Zg) (g:=(id:Zc→Zc)) x j p hj
  exact ⟨u,hu1,Enc.one _ u (List.mem_of_getElem? hu1),fun w E=>by rw [hu2]; exact Zh8 _ (Enc.one _ u (List.mem_of_getElem? hu1))⟩⟩)
 refine ⟨_,E',rfl,h1,h2,h3,h4,.tu _ _ rfl fun j p x hp hx=>?_⟩
 match j with
 | 0=>obtain rfl:_=p:=Option.some.inj hp
      obtain rfl:_=x:=Option.some.inj hx
      exact h5
 | 1=>obtain rfl:_=p:=Option.some.inj hp
      obtain rfl:_=x:=Option.some.inj hx
      exact Zh8 _ rfl
 | j+2=>simp at hp
instance (n:Za) (l:List Zc) (thing:Int) (weight:Int) (way:List Ze):CT Tryz.prog (Za7 n l thing weight way):=⟨135,[.ag (Zr n),.sl (l.map Zg),vi thing,vi weight,.sl (way.map Zs)],[],fun r=>.tu [.ms 0,vb r.2],fun r=>[some ⟨135,4,r.1.map Zg⟩],Zky n l thing weight way⟩
end Go.Proofs.YtmcdjilbkmhfoaaGreat
namespace Go.Proofs.YtmcdjilbkmhfoaaGreat
set_option maxRecDepth 10000
open Go.RowKit
set_option linter.unusedVariables false
theorem Zev.frz {P:Program} {f:FuncId} {args:List PV} {T:TypeId} {k:Nat} {es:List (List PV)} (h:Zev P f args [] (.ms 0) [some ⟨T,k,es⟩]) (hes:∀ cs∈es,∀ p∈cs,isC1 p=true):Zev P f args [] (.sl es) []:=by
 intro S β w vs hk0 hl ha
 refine (h S β w vs hk0 hl ha).mono ?_
 rintro e w' ⟨v,E',rfl,hk,hS1,hS2,_,hr⟩
 obtain ⟨B,hB,hb,rfl⟩:=hr.ms_inv hk (l:=0) rfl
 have hkk:=hb.k
 have hn:=hb.n
 simp only at hkk hn
 have hβ:∀ l,β l=none:=fun l=>by
  cases h:β l with
  | none=>rfl
  | some B0=>obtain ⟨mb,hm⟩:=hk0.dom l B0 h; simp at hm
 let S':Nat→Prop:=fun b=>E'.S b∨(B.z=false∧b=B.b)
 have hok:Ok w (own0 β) (E1 S' (fun _=>none) 0) w' []:=
  ⟨hk.up,fun b hb'=>by
   rcases hb' with h | ⟨hz,rfl⟩
   ·exact hk.sz b h
   ·exact (hk.own 0 B hB hz).2.1,fun l B h=>(by cases h),fun l l' B B' h=>(by cases h),fun l h=>absurd h (Nat.not_lt_zero l),fun l B h=>(by cases h),fun l mb h=>(by simp at h),fun l B h=>(by cases h),hk.tab⟩
 have hnew:B.z=false→S B.b∨w.heap.size≤B.b∨own0 β B.b:=fun hz=>by
  rcases (hk.own 0 B hB hz).1 with h | h
  ·exact .inr (.inr h)
  ·exact .inr (.inl h)
 refine ⟨B.sv,E1 S' (fun _=>none) 0,rfl,hok,fun b hb'=>.inl (hS1 b hb'),fun b hb'=>?_,fun l B h=>absurd h (Nat.not_lt_zero l),.c ?_⟩
 ·rcases hb' with h | ⟨hz,rfl⟩
  ·exact hS2 b h
  ·exact hnew hz
 ·cases hz:B.z with
  | true=>
   have h0:es=[]:=hb.nil hz
   subst h0
   have hsv:B.sv=.slice none 0 0:=by simp [Blk.sv,hz]
   rw [hsv]
   exact .nil _ _
  | false=>
   have hsv:B.sv=.slice (some ⟨B.b,0,none⟩) es.length B.c:=by simp [Blk.sv,hz,hn]
   rw [hsv]
   obtain ⟨cells,hc,hcs,hcell⟩:=hb.mem hz
   have hat:∀ (i:Nat) (cs:List PV) (j:Nat) (p:PV),es[i]?=some cs→cs[j]?=some p→∃ x,w'.cell? ⟨B.b,0+i*k+j,none⟩=some x∧x.oneCell'=true∧RepC w' S' p x:=by
    intro i cs j p hi hj
    obtain ⟨x,x1,x2,x3⟩:=hcell i cs j p hi hj
    rw [hkk] at x1
    refine ⟨x,by rw [Nat.zero_add,cell_of_row w' B.b _ cells B.T (0,0) hc,x1],x2,?_⟩
    exact (x3.toC1 (hes cs (List.mem_of_getElem? hi) p (List.mem_of_getElem? hj))).ext (fun b hb=>.inl hb) (fun _ _ _=>rfl)
   exact .sl es B.b 0 k B.c (fun i j=>(w'.cell? ⟨B.b,0+i*k+j,none⟩).getD .nilIface) (.inr ⟨hz,rfl⟩) (by rw [← hkk]; exact hb.pos) (by rw [← hn]; exact hb.nc) hb.cm (fun i cs hi=>by rw [← hkk]; exact hb.es i cs hi)
    (fun i cs j p hi hj=>by obtain ⟨x,x1,_⟩:=hat i cs j p hi hj; rw [x1]; rfl)
    (fun i cs j p hi hj=>by obtain ⟨x,x1,x2,_⟩:=hat i cs j p hi hj; rw [x1]; exact x2)
    (fun i cs j p hi hj=>by obtain ⟨x,x1,_,x3⟩:=hat i cs j p hi hj; rw [x1]; exact x3)
def ZcP (l:List Ze):Option (List Ze):=ZaP l
theorem ZhP (l:List Ze) {r:List Ze} (H:ZcP l=some r):Zev Tryz.prog 137 [.sl (l.map Zs)] [] (.sl (r.map Zs)) []:=
 (CT.ok (P:=Tryz.prog) (x:=ZaP l) H).frz fun cs hcs p hp=>by
  obtain ⟨x,_,rfl⟩:=List.mem_map.1 hcs
  simp only [Zs,List.mem_cons,List.not_mem_nil,or_false] at hp
  rcases hp with rfl | rfl <;> rfl
instance (l:List Ze):CT Tryz.prog (ZcP l):=⟨137,[.sl (l.map Zs)],[],fun r=>.sl (r.map Zs),fun r=>[],ZhP l⟩
set_option maxHeartbeats 16000000
def ZfO (n:Za) (leg:Int) (at2_:Int) (s0:Int):Option (Int ⊕ (Unit ⊕ (Ze × Bool))):=
 cond (decide (s0≤60))
 ((Zd4 n leg s0).bind fun y1=>
 cond y1
 ((ZH n (⟨leg,s0⟩:Ze)).bind fun y2=>
 cond (decide (at2_≤y2))
 (some (.inr (.inr ((⟨leg,s0⟩:Ze),true))))
 (some (.inl (w64 (s0+1)))))
 (some (.inl (w64 (s0+1)))))
 (some (.inr (.inl ())))
instance (n:Za) (leg:Int) (at2_:Int):ZP (ZfO n leg at2_):=⟨fun s0=>(.un::vi leg::vi at2_::.be 0 0 0::.un::.un::.be 1 0 0::.un::vi s0::(U 21 [])),fun s0=>[some ⟨35,3,[[.sl (n.legs.map cLeg),.sl (n.off.map cInt),vi n.change]]⟩,some ⟨55,2,[[vi 0,vi 0]]⟩]⟩
def Zg2 (n:Za) (leg:Int) (at2_:Int):Option (Ze × Bool):=
 (Zj (ZfO n leg at2_) NN 0).bind (ZY (fun o0=>
 some ((⟨0,0⟩:Ze),false)) (fun r=>some r))
instance (n:Za) (leg:Int) (at2_:Int):CT Tryz.prog (Zg2 n leg at2_):=⟨219,[.ag (Zr n),vi leg,vi at2_],[],fun r=>.tu [.ag [vi r.1.leg,vi r.1.day],vb r.2],fun r=>[],fun H=>by replace H:=H0 H; unfold Zg2 at H; exact Zh Tryz.func219 rfl Tryz.ntmps219 Tryz.results219 fun Q hQ hQn=>wk3⟩
def ZeA (leg:Int) (at1_:Int) (c0_:Za):Option (Ze × Bool):=
 (Zg2 c0_ leg at1_).bind fun y1=>
 some (y1.1,y1.2)
instance (leg:Int) (at1_:Int) (c0_:Za):CT Tryz.prog (ZeA leg at1_ c0_):=⟨218,[vi leg,vi at1_,.rp [.sl (c0_.legs.map cLeg),.sl (c0_.off.map cInt),vi c0_.change]],[],fun r=>.tu [.ag [vi r.1.leg,vi r.1.day],vb r.2],fun r=>[],fun H=>by replace H:=H0 H; unfold ZeA at H; exact Zh Tryz.func218 rfl Tryz.ntmps218 Tryz.results218 fun Q hQ hQn=>wk3⟩
def Zep (n:Za) (find0_:Za) (at3_:Int) (legs:Int) (y1:List ByteArray) (y2:Int) (s0:Int × (List Int)):Option ((Int × (List Int)) ⊕ (List Int)):=
 cond (decide (s0.1<(y1.length:Int)))
 ((chk (ZQ ((s0.2:List Int).length+([(-1)]:List Int).length) 8)).bind fun _=>
 some (.inl ((w64 (s0.1+1)),((s0.2:List Int)++[(-1)]))))
 (some (.inr s0.2))
instance (n:Za) (find0_:Za) (at3_:Int) (legs:Int) (y1:List ByteArray) (y2:Int):ZP (Zep n find0_ at3_ legs y1 y2):=⟨fun s0=>(.un::.fn 218 [.rp [.sl (find0_.legs.map cLeg),.sl (find0_.off.map cInt),vi find0_.change]]::.un::vi at3_::vi legs::.be 0 0 0::(U 5 (.ms 1::vi y2::.ms 2::(U 26 (vi (y1.length:Int)::vi s0.1::(U 83 [])))))),fun s0=>[some ⟨35,3,[[.sl (n.legs.map cLeg),.sl (n.off.map cInt),vi n.change]]⟩,some ⟨9,1,y1.map cStr⟩,some ⟨3,1,s0.2.map cInt⟩]⟩
def ZcX (n:Za) (find0_:Za) (legs:Int) (y1:List ByteArray) (y2:Int) (s1:Int × (List Int)) (s2:Int × Bool × (List Int)):Option ((Int × Bool × (List Int)) ⊕ (Bool × (List Int))):=
 cond (decide (s2.1<(n.legs.length:Int)))
 ((getI n.legs s2.1).bind fun y4=>
 (Zz y1 y4.from_).bind fun y5=>
 (Zz y1 y4.to_).bind fun y6=>
 (getI s1.2 y5).bind fun y7=>
 cond (decide (y7<0))
 (some (.inl ((w64 (s2.1+1)),s2.2.1,s2.2.2)))
 ((getI s1.2 y5).bind fun y8=>
 (Zdn n y8 (decide (y5=y2))).bind fun y9=>
 (ZeA s2.1 y9 find0_).bind fun y10=>
 cond y10.2
 ((getI s2.2.2 y6).bind fun y11=>
 cond (decide (y11<0))
 ((ZO n y10.1).bind fun y12=>
 (getI s2.2.2 y6).bind fun y13=>
 some (.inl ((w64 (s2.1+1)),true,(s2.2.2.set (Int.toNat y6) y12))))
 ((ZO n y10.1).bind fun y14=>
 (getI s2.2.2 y6).bind fun y15=>
 cond (decide (y14<y15))
 ((ZO n y10.1).bind fun y16=>
 (getI s2.2.2 y6).bind fun y17=>
 some (.inl ((w64 (s2.1+1)),true,(s2.2.2.set (Int.toNat y6) y16))))
 (some (.inl ((w64 (s2.1+1)),s2.2.1,s2.2.2)))))
 (some (.inl ((w64 (s2.1+1)),s2.2.1,s2.2.2)))))
 (some (.inr (s2.2.1,s2.2.2)))
instance (n:Za) (find0_:Za) (legs:Int) (y1:List ByteArray) (y2:Int) (s1:Int × (List Int)):ZP (ZcX n find0_ legs y1 y2 s1):=⟨fun s2=>(.un::.fn 218 [.rp [.sl (find0_.legs.map cLeg),.sl (find0_.off.map cInt),vi find0_.change]]::.un::.un::vi legs::.be 0 0 0::(U 5 (.ms 1::vi y2::.ms 2::vi s1.1::.ms 3::vb s2.2.1::(U 44 (.sl (n.legs.map cLeg)::vi (n.legs.length:Int)::vi s2.1::(U 61 [])))))),fun s2=>[some ⟨35,3,[[.sl (n.legs.map cLeg),.sl (n.off.map cInt),vi n.change]]⟩,some ⟨9,1,y1.map cStr⟩,some ⟨3,1,s1.2.map cInt⟩,some ⟨3,1,s2.2.2.map cInt⟩]⟩
def ZcW (n:Za) (find0_:Za) (legs:Int) (y1:List ByteArray) (y2:Int) (s1:Int × (List Int)):Option ((Int × (List Int)) ⊕ (List Int)):=
 cond (decide (s1.1<legs))
 ((chk (ZQ ((([]:List Int):List Int).length+(s1.2:List Int).length) 8)).bind fun _=>
 (Zj (ZcX n find0_ legs y1 y2 s1) NN (0,false,((([]:List Int):List Int)++s1.2))).bind (fun o2=>
 cond (!o2.1)
 (some (.inr o2.2))
 (some (.inl ((w64 (s1.1+1)),o2.2)))))
 (some (.inr s1.2))
instance (n:Za) (find0_:Za) (legs:Int) (y1:List ByteArray) (y2:Int):ZP (ZcW n find0_ legs y1 y2):=⟨fun s1=>(.un::.fn 218 [.rp [.sl (find0_.legs.map cLeg),.sl (find0_.off.map cInt),vi find0_.change]]::.un::.un::vi legs::.be 0 0 0::(U 5 (.ms 1::vi y2::.ms 2::vi s1.1::(U 110 [])))),fun s1=>[some ⟨35,3,[[.sl (n.legs.map cLeg),.sl (n.off.map cInt),vi n.change]]⟩,some ⟨9,1,y1.map cStr⟩,some ⟨3,1,s1.2.map cInt⟩]⟩
def ZcS (n:Za) (find0_:Za) (from2_:ByteArray) (at3_:Int) (legs:Int):Option (List Int):=
 (Z4 n).bind fun y1=>
 (Zz y1 from2_).bind fun y2=>
 cond (decide (y2<0))
 (some ([]))
 (cond (decide (100000<at3_))
 (some ([]))
 (cond (decide (legs<0))
 (some ([]))
 ((Zj (Zep n find0_ at3_ legs y1 y2) NN (0,([]:List Int))).bind (fun o0=>
 (getI o0 y2).bind fun y3=>
 (Zj (ZcW n find0_ legs y1 y2) NN (0,(o0.set (Int.toNat y2) (if 0 > at3_ then 0 else at3_)))).bind (fun o1=>
 some o1)))))
instance (n:Za) (find0_:Za) (from2_:ByteArray) (at3_:Int) (legs:Int):CT Tryz.prog (ZcS n find0_ from2_ at3_ legs):=⟨216,[.ag (Zr n),.fn 218 [.rp [.sl (find0_.legs.map cLeg),.sl (find0_.off.map cInt),vi find0_.change]],vs from2_,vi at3_,vi legs],[],fun r=>.ms 0,fun r=>[some ⟨3,1,r.map cInt⟩],fun H=>by replace H:=H0 H; unfold ZcS at H; exact Zh Tryz.func216 rfl Tryz.ntmps216 Tryz.results216 fun Q hQ hQn=>wk3⟩
end Go.Proofs.YtmcdjilbkmhfoaaGreat
