/- A part of the proof of the statement in the last file of this claim: texts on the language of the program and on its functions. No condition. -/
import Derived.Test.YtmcdjilbkmhfoaaGreatCFnWorldKeeps4
import Derived.Test.YtmcdjilbkmhfoaaGreatCFnWorldKeeps5
import Derived.Test.YtmcdjilbkmhfoaaGreatCFnRetry9
import Derived.Test.YtmcdjilbkmhfoaaGreatCFnWorldKeeps6
import Derived.Test.YtmcdjilbkmhfoaaGreatCFnRetry8
import Derived.Test.YtmcdjilbkmhfoaaGreatCFnRetry7
import Derived.Test.YtmcdjilbkmhfoaaGreatCFnWorldKeeps1
import Derived.Deep.DeepCutAuto
import Derived.StillTailTactics
import Derived.Deep.RegionHeld3
namespace Go.Proofs.YtmcdjilbkmhfoaaGreat
set_option maxRecDepth 10000
open Go.RowKit
set_option linter.unusedVariables false
set_option maxHeartbeats 16000000
def Zf9 (n:Za):Option Za:=
 some (n)
instance (n:Za):CT Tryz.prog (Zf9 n):=⟨152,[.ag (Zr n)],[],fun r=>.fn 218 [.rp [.sl (r.legs.map cLeg),.sl (r.off.map cInt),vi r.change]],fun r=>[],fun H=>by replace H:=H0 H; unfold Zf9 at H; exact Zh Tryz.func152 rfl Tryz.ntmps152 Tryz.results152 fun Q hQ hQn=>wk3⟩
def Zd0 (n:Za) (from1_:ByteArray) (at2_:Int) (legs:Int):Option (List Int):=
 (Z8 n).bind fun y1=>
 cond (!y1)
 (some ([]))
 ((Zf9 n).bind fun y2=>
 (ZcS n y2 from1_ at2_ legs).bind fun y3=>
 some y3)
instance (n:Za) (from1_:ByteArray) (at2_:Int) (legs:Int):CT Tryz.prog (Zd0 n from1_ at2_ legs):=⟨245,[.ag (Zr n),vs from1_,vi at2_,vi legs],[],fun r=>.ms 0,fun r=>[some ⟨3,1,r.map cInt⟩],fun H=>by replace H:=H0 H; unfold Zd0 at H; exact Zh Tryz.func245 rfl Tryz.ntmps245 Tryz.results245 fun Q hQ hQn=>wk3⟩
def ZaU (n:Za) (from1_:ByteArray) (to_:ByteArray) (at3_:Int):Option Int:=
 (Z4 n).bind fun y1=>
 (Zd0 n from1_ at3_ (y1.length:Int)).bind fun y2=>
 (Zz y1 to_).bind fun y3=>
 cond (decide (y3<0))
 (some (-1))
 (cond (decide ((y2.length:Int)=0))
 (some (-1))
 ((getI y2 y3).bind fun y4=>
 some y4))
instance (n:Za) (from1_:ByteArray) (to_:ByteArray) (at3_:Int):CT Tryz.prog (ZaU n from1_ to_ at3_):=⟨203,[.ag (Zr n),vs from1_,vs to_,vi at3_],[],fun r=>vi r,fun r=>[],fun H=>by replace H:=H0 H; unfold ZaU at H; exact Zh Tryz.func203 rfl Tryz.ntmps203 Tryz.results203 fun Q hQ hQn=>wk3⟩
def ZaO (n:Za) (service:Int) (from2_:ByteArray) (to_:ByteArray) (at4_:Int):Option Int:=
 (ZaU n from2_ to_ at4_).bind fun y1=>
 cond (decide (y1=(-1)))
 (some (-1))
 ((Zx service 1 3).bind fun y2=>
 cond (!y2)
 (some (-1))
 (cond (decide (1080<(Int.tmod y1 1440)))
 ((getI ([0,1,4]:List Int) (w64 (service-1))).bind fun y3=>
 some (w64 ((w64 ((w64 ((w64 ((IntKind.i64.wrap (Int.tdiv y1 1440))+1))+y3))*1440))+1080)))
 ((getI ([0,1,4]:List Int) (w64 (service-1))).bind fun y4=>
 some (w64 ((w64 ((w64 ((IntKind.i64.wrap (Int.tdiv y1 1440))+y4))*1440))+1080)))))
instance (n:Za) (service:Int) (from2_:ByteArray) (to_:ByteArray) (at4_:Int):CT Tryz.prog (ZaO n service from2_ to_ at4_):=⟨136,[.ag (Zr n),vi service,vs from2_,vs to_,vi at4_],[],fun r=>vi r,fun r=>[],fun H=>by replace H:=H0 H; unfold ZaO at H; exact Zh Tryz.func136 rfl Tryz.ntmps136 Tryz.results136 fun Q hQ hQn=>wk3⟩
set_option linter.unusedSimpArgs false
set_option linter.unusedSectionVars false
theorem Zl8 (t:Ze):Zap [] t=some 0:=by
 unfold Zap
 obtain ⟨N,hN⟩:∃ N,NN=N+1:=⟨NN-1,by unfold NN; omega⟩
 rw [hN]
 unfold Zj Zal
 rfl
section
variable {n:Za} (hf:Z0 n) (hn:Zi n=some true) (hr:∀ l∈n.legs,1≤l.room)
include hf hn hr
end
structure WayR (n:Za) (l:List Zc) (closed:List Ze) (weight:Int) (from_ to_:ByteArray) (at_:Int) (way:List Ze):Prop where
 hC:ZZ n l=true∧0≤idxV (Zb n) from_∧at_≤100000∧1≤weight
 hto:0≤idxV (Zb n) to_
 len:way.length≤20
 best:∃ e,getI (Z6 n l closed weight (idxV (Zb n) from_) at_ (Zb n).length) (idxV (Zb n) to_)=some e∧0≤e∧e≤100000∧(way=[]∧e=(if 0 > at_ then 0 else at_)∨∃ t,way.getLast?=some t∧Z7 n t=e)
 nodup:(from_::way.map (ZL n)).Nodup
 last:(from_::way.map (ZL n)).getLast?=some to_
 chain:ZbG n from_ (if 0 > at_ then 0 else at_) way
 found:∀ t∈way,Zaq closed t=some false∧∃ y q,getI n.legs t.leg=some y∧Zap l t=some q∧weight≤w64 (y.room-q)
theorem Zek {n:Za}:∀ {ts:List Ze} {p:ByteArray} {a:Int},ZbG n p a ts→∀ t∈ts,ZbJ n t=true
 | x::ts,p,a,h,t,ht=>by
  rcases List.mem_cons.1 ht with rfl | ht
  ·exact h.1
  ·exact Zek h.2.2.2 t ht
section
variable {n:Za} (hf:Z0 n)
include hf
theorem Zwd {l:List Zc} (hl:l.length≤1048576) {closed:List Ze} {from_:ByteArray} {at_ weight:Int} (hC:¬ (ZZ n l=true∧0≤idxV (Zb n) from_∧at_≤100000∧1≤weight)) (k:Int):Zab n l closed from_ at_ weight k=some []:=by
 unfold Zab
 rw [(Zac hf).2]
 simp only [Option.bind_some,Zgk hf,Zcu hf hl]
 by_cases hB:ZZ n l=true
 case neg=>rw [show ZZ n l=false by simpa using hB]; rfl
 rw [hB]
 by_cases h1:idxV (Zb n) from_<0
 ·rw [decide_eq_true h1]; rfl
 by_cases h2:100000<at_
 ·rw [decide_eq_true h2,decide_eq_false h1]; rfl
 by_cases h3:weight<1
 ·rw [decide_eq_true h3,decide_eq_false h1,decide_eq_false h2]; rfl
 exact absurd ⟨hB,by omega,by omega,by omega⟩ hC
theorem Zxv {from_:ByteArray} {at_:Int} {way:List Ze} (hn:Zi n=some true) (hnd:(from_::way.map (ZL n)).Nodup) (hc:ZbG n from_ at_ way):way.length≤20:=by
 have hlg:=Zff hn
 have hb:∀ t∈way,0≤t.leg∧t.leg.toNat<n.legs.length:=fun t ht=>by
  obtain ⟨y,hy,_⟩:=Zah hf (Zek hc t ht)
  obtain ⟨a,b⟩:=Zdb hy
  exact ⟨a,(List.getElem?_eq_some_iff.1 b).1⟩
 have h1:=(List.nodup_cons.1 hnd).2
 unfold List.Nodup at h1
 rw [List.pairwise_map] at h1
 have h2:(way.map fun t=>t.leg.toNat).Nodup:=by
  unfold List.Nodup
  rw [List.pairwise_map]
  refine h1.imp_of_mem fun {a b} ha hb' h e=>h ?_
  have e1:a.leg=b.leg:=by have:=hb a ha; have:=hb b hb'; omega
  unfold ZL
  rw [e1]
 have:=Zkx n.legs.length _ h2 fun x hx=>by
  obtain ⟨t,ht,rfl⟩:=List.mem_map.1 hx
  exact (hb t ht).2
 rw [List.length_map] at this
 omega
theorem ZfW {l:List Zc} (hl:l.length≤1048576) {closed:List Ze} (hc:closed.length≤1048576) {from_ to_:ByteArray} {at_ weight:Int} {way:List Ze} (h:Zy n l closed from_ to_ at_ weight=some (way,true)):WayR n l closed weight from_ to_ at_ way:=by
 unfold Zy at h
 rw [(Zac hf).2] at h
 simp only [Option.bind_some,Zgk hf] at h
 by_cases hC:ZZ n l=true∧0≤idxV (Zb n) from_∧at_≤100000∧1≤weight
 case neg=>
  rw [Zwd hf hl hC] at h
  simp only [Option.bind_some,List.length_nil] at h
  by_cases ht:idxV (Zb n) to_<0
  ·rw [decide_eq_true ht] at h; cases h
  ·rw [decide_eq_false ht] at h; cases h
 have hn:=(Zav hC.1).1
 have hlg:=Zff hn
 have hp:(Zb n).length≤40:=by have:=Zaz n; omega
 have hbl:=Zfb hf hl hc weight (idxV (Zb n) from_) at_
 have hfl:=(Ze2 (Zb n) from_).2
 have htl:=(Ze2 (Zb n) to_).2
 rw [ZfR hf hl hc weight at_ hC (Nat.le_refl _)] at h
 simp only [Option.bind_some] at h
 by_cases ht:idxV (Zb n) to_<0
 ·rw [decide_eq_true ht] at h; cases h
 obtain ⟨e,he,_⟩:=Zew (xs:=Z6 n l closed weight (idxV (Zb n) from_) at_ (Zb n).length) (i:=idxV (Zb n) to_) ⟨by omega,by rw [hbl]; exact htl⟩
 simp only [decide_eq_false ht,cond_false,decide_eq_false (show ¬ (((Z6 n l closed weight (idxV (Zb n) from_) at_ (Zb n).length).length:Int)=0) by rw [hbl]; omega),he,Option.bind_some] at h
 by_cases hd:e<0
 ·rw [decide_eq_true hd] at h; cases h
 obtain ⟨k,q1,q2,q3,q4,q5⟩:=Zln hf hl hc weight at_ hp hC ⟨by omega,htl⟩ he
 obtain ⟨w,p1,p2⟩:=ZwM hf hn hl hc weight at_ hC k to_ e [] (by omega) q2 (by omega) q3 (by simp only [List.length_nil]; omega) NN (by unfold NN; omega)
 rw [List.append_nil] at p1
 simp only [decide_eq_false hd,cond_false,q4,Option.bind_some,p1,Option.some.injEq,Prod.mk.injEq] at h
 obtain ⟨rfl,_⟩:=h
 have po:=ZwN hf hn hl hc weight at_ hC.2.1 hC.2.2.1 p2
 exact ⟨hC,by omega,Zxv hf hn po.nodup po.chain,⟨e,he,po.time.1,po.time.2,po.ends⟩,po.nodup,po.last,po.chain,po.found⟩
theorem Zj0 (hn:Zi n=some true) {way:List Ze} (hl:way.length≤1048576) {a b:ByteArray} {t:Int} (ha:0≤idxV (Zb n) a) (hb:0≤idxV (Zb n) b) (hc:ZbG n a t way) (he:way.foldl (fun _ t=>ZL n t) a=b):ZaN n way a b t=some true:=by
 obtain ⟨ch0,ch1⟩:=ZbB hn
 have key:∀ (d i:Nat) (p:ByteArray) (u:Int),i+d=way.length→ZbG n p u (way.drop i)→∀ N,d<N→Zj (Zao n way b) N (p,u,(i:Int))=some (.inl ((way.drop i).foldl (fun _ t=>ZL n t) p)):=by
  intro d
  induction d with
  | zero=>
   intro i p u hi h N hN
   obtain ⟨N,rfl⟩:∃ M,N=M+1:=⟨N-1,by omega⟩
   rw [List.drop_of_length_le (by omega)]
   unfold Zj Zao
   simp only [decide_eq_false (show ¬ (i:Int)<(way.length:Int) by omega),cond_false,List.foldl_nil]
   rfl
  | succ d ih=>
   intro i p u hi h N hN
   obtain ⟨N,rfl⟩:∃ M,N=M+1:=⟨N-1,by omega⟩
   have hlt:i<way.length:=by omega
   have hg:getI way (i:Int)=some way[i]:=by rw [Zn]; exact List.getElem?_eq_getElem hlt
   have hw:w64 ((i:Int)+1)=((i+1:Nat):Int):=ZR hlt (by omega)
   rw [List.drop_eq_getElem_cons hlt] at h ⊢
   obtain ⟨c1,c2,c3,c4⟩:=h
   obtain ⟨y,hy,_⟩:=Zah hf c1
   obtain ⟨t1,t2,t3,t4,t5⟩:=ZI hf hn c1
   have f1:ZbL n way[i]=y.from_:=by unfold ZbL; rw [hy]; rfl
   have f2:ZL n way[i]=y.to_:=by unfold ZL; rw [hy]; rfl
   have hwe:w64 (Z7 n way[i]+n.change)=Z7 n way[i]+n.change:=Zo (by omega)
   have hstep:Zao n way b (p,u,(i:Int))=some (.inl (ZL n way[i],Z7 n way[i]+n.change,((i+1:Nat):Int))):=by
    unfold Zao
    simp only [decide_eq_true (show (i:Int)<way.length by omega),cond_true,hg,Option.bind_some,Zio hf hn,c1,Bool.not_true,cond_false,hy,t1,t2,decide_eq_true (show y.from_=p by rw [← f1]; exact c2),decide_eq_false (show ¬ ZM n way[i]<u by omega),hwe,hw,f2]
   unfold Zj
   rw [hstep,List.foldl_cons]
   exact ih (i+1) _ _ (by omega) c4 N (by omega)
 have hk:=key way.length 0 a t (by omega) (by simpa using hc) NN (by unfold NN; omega)
 rw [List.drop_zero,he] at hk
 have hpl:=Zaz n
 have hll:=hf.legs
 unfold ZaN
 rw [(Zac hf).2,hn]
 simp only [Option.bind_some,Zft (show (Zb n).length≤4194304 by omega),decide_eq_false (show ¬ idxV (Zb n) a<0 by omega),decide_eq_false (show ¬ idxV (Zb n) b<0 by omega),Bool.not_true,cond_false]
 rw [show (0:Int)=((0:Nat):Int) from rfl,hk]
 simp [ZY]
end
theorem Zlq {α β:Type} (f:α→β):∀ (l:List α) (a b:β),(a::l.map f).getLast?=some b→l.foldl (fun _ x=>f x) a=b
 | [],a,b,h=>by simpa using h
 | x::l,a,b,h=>by
  rw [List.map_cons,List.getLast?_cons_cons] at h
  exact Zlq f l (f x) b h
theorem Zp1:∀ (l:List Zc),l.length≤1048575→∃ d:List Zc,d.Perm l∧d.Pairwise leB
 | [],_=>⟨[],.nil,.nil⟩
 | x::l,h=>by
  rw [List.length_cons] at h
  obtain ⟨d,h1,h2⟩:=Zp1 l (by omega)
  have:=h1.length_eq
  obtain ⟨r,_,_,h3,h4⟩:=Zrl (l:=d) (by omega) x h2
  exact ⟨r,h3.trans ((h1.append_right [x]).trans (List.perm_append_comm (l₁:=l) (l₂:=[x]))),h4⟩
def newO (w:Zd) (from_ to_:ByteArray) (service weight due:Int) (way:List Ze):Zf:=⟨from_,to_,service,weight,w.now,due,way,0,1,from_,0⟩
def accV (w:Zd) (o:Zf) (ys:List Zc):Zd:=ZbK ⟨w.network,w.orders++[o],ys,w.closed,w.now,w.scans,w.skip,w.made⟩ ⟨(w.orders.length:Int)+1,w.now,1,o.from_,⟨0,0⟩⟩
theorem Zod {l l':List Zc} (h:∀ b∈l,b∈l') {th:Int} {t:Ze} {wt:Int} (hb:ZcD l th t wt=true):ZcD l' th t wt=true:=by
 unfold ZcD at *
 rw [List.any_eq_true] at *
 obtain ⟨x,h1,h2⟩:=hb
 exact ⟨x,h x h1,h2⟩
theorem ZrT (os:List Zf) (o:Zf):(os++[o]).foldl (fun a (o:Zf)=>w64 (a+(o.way.length:Int))) 0=w64 (os.foldl (fun a (o:Zf)=>w64 (a+(o.way.length:Int))) 0+(o.way.length:Int)):=by
 rw [List.foldl_append]; rfl
section
variable {w:Zd} (h:WOk w)
include h
theorem ZuV {th:Int} (h1:1≤th∧th≤9999) {p:ByteArray} (hp:0≤idxV (Zb w.network) p):ZB w.network ⟨th,w.now,1,p,⟨0,0⟩⟩=some true:=by
 have hnow:=h.parts.1
 have hpl:=Zaz w.network
 have hll:=h.fit.net.legs
 unfold ZB
 rw [h.net]
 simp only [Option.bind_some,ZbH,Bool.not_true,cond_false,decide_eq_true h1.1,decide_eq_true h1.2,decide_eq_true hnow.1,decide_eq_true hnow.2,Bool.and_self,(Zac h.fit.net).2,Zft (show (Zb w.network).length≤4194304 by omega),decide_true,cond_true,decide_eq_true hp]
theorem ZxE (ho30:w.orders.length<30) {from_ to_:ByteArray} (hne:¬ from_=to_) {service weight due:Int} (hs:1≤service∧service≤3) (hw:1≤weight∧weight≤30000) (hdue:0≤due∧due≤200000) {way:List Ze} (hR:WayR w.network w.bookings w.closed weight from_ to_ (w.now+1) way)
 {ys:List Zc} (hp:ys.Perm (w.bookings++ZdR ((w.orders.length:Int)+1) weight way)) (hb:ZZ w.network ys=true):WOk (accV w (newO w from_ to_ service weight due way) ys):=by
 obtain ⟨p1,p2,p3,p4,p5,p6,p7⟩:=h.parts
 have hbn:=(Zav hb).2
 have hlen:=hR.len
 have hyl:=hp.length_eq
 rw [List.length_append] at hyl
 have hnl:(ZdR ((w.orders.length:Int)+1) weight way).length=way.length:=by unfold ZdR; rw [List.length_map]
 rw [hnl] at hyl
 have hv:=h.ok
 have hat:(if 0 > w.now+1 then 0 else w.now+1)=w.now+1:=if_neg (by omega)
 have hch:=hR.chain
 rw [hat] at hch
 have htrip:=Zek hch
 have hmem:∀ b∈w.bookings,b∈ys:=fun b hb=>hp.mem_iff.2 (List.mem_append_left _ hb)
 have hlast:=Zlq (ZL w.network) way from_ to_ hR.last
 have hsc:=Znc (n:=w.network) (at_:=w.now) (skip:=w.skip) (p:=(w.scans,w.made)) (s:=⟨(w.orders.length:Int)+1,w.now,1,from_,⟨0,0⟩⟩) ⟨fun s hs=>ZgS h.fit h.ok hs,p4,p6⟩ ⟨ZuV h (by omega) hR.hC.2.1,Int.le_refl _⟩
 have hnew:ZcY (accV w (newO w from_ to_ service weight due way) ys) w.orders.length (newO w from_ to_ service weight due way)=true:=by
  have hcv:Zm (newO w from_ to_ service weight due way)=0:=by unfold Zm newO; rw [if_neg (by simp)]
  have hst:ZC w.network (newO w from_ to_ service weight due way) w.now=some true:=by
   refine (Zhu h.fit.net h.net ⟨Int.le_refl _,by simp only [newO]; omega⟩ (by simp only [newO]; omega) htrip w.now).2 ⟨fun t h0=>by simp [newO] at h0,.inl ⟨rfl,?_,?_,rfl,fun t ht=>?_⟩⟩
   ·unfold ZfY newO; rw [if_neg (by simp)]
   ·unfold ZfY newO; rw [if_neg (by simp)]; exact hne
   ·have ht':way[0]?=some t:=ht
    cases way with
    | nil=>simp at ht'
    | cons x xs=>
     obtain rfl:x=t:=by simpa using ht'
     have:=hch.2.2.1
     omega
  unfold ZcY
  simp only [Bool.and_eq_true,Bool.not_eq_true',decide_eq_true_iff,decide_eq_false_iff_not]
  have hid:¬ idxV (Zb w.network) from_<0:=by have:=hR.hC.2.1; omega
  have hid2:¬ idxV (Zb w.network) to_<0:=by have:=hR.hto; omega
  have hw1:w64 (w.now+1)=w.now+1:=Zo (by omega)
  refine ⟨⟨⟨⟨⟨⟨⟨⟨⟨⟨⟨hid,hid2⟩,hne⟩,hs⟩,hw⟩,p1.1,Int.le_refl _⟩,hdue⟩,Int.le_refl _,by simp only [newO]; omega⟩,?_⟩,?_⟩,?_⟩,?_⟩
  ·refine Zas.2 fun j t hj=>?_
   have hj':way[j]?=some t:=hj
   have htm:=List.mem_of_getElem? hj'
   unfold wayC
   simp only [Bool.and_eq_true,Bool.not_eq_true',Bool.and_eq_false_imp,decide_eq_true_iff,decide_eq_false_iff_not,Nat.zero_add]
   refine ⟨⟨htrip t htm,?_⟩,fun he hj1=>?_⟩
   ·unfold ZcD
    refine List.any_eq_true.2 ⟨⟨(w.orders.length:Int)+1,t,weight⟩,hp.mem_iff.2 (List.mem_append_right _ ?_),decide_eq_true ?_⟩
    ·unfold ZdR; exact List.mem_map_of_mem htm
    ·rw [show ((w.orders.length+1:Nat):Int)=(w.orders.length:Int)+1 by omega]; rfl
   ·have hj1':j+1<way.length:=hj1
    have he':ZL w.network t=to_:=he
    have hnd:=hR.nodup
    have hl2:=hR.last
    rw [List.getLast?_eq_getElem?,List.length_cons,List.length_map,Nat.add_sub_cancel] at hl2
    have h1:(from_::way.map (ZL w.network))[j+1]?=some to_:=by rw [List.getElem?_cons_succ,List.getElem?_map,hj',Option.map_some,he']
    have h2:=List.pairwise_iff_getElem.1 hnd (j+1) way.length (by simp; omega) (by simp) (by omega)
    exact h2 ((List.getElem?_eq_some_iff.1 h1).2.trans (List.getElem?_eq_some_iff.1 hl2).2.symm)
  ·have hend:endV w.network (newO w from_ to_ service weight due way)=to_:=hlast
   show (ZaN w.network way from_ (endV w.network (newO w from_ to_ service weight due way)) (w64 (w.now+1))).getD false=true
   rw [hend,hw1,Zj0 h.fit.net h.net (by omega) hR.hC.2.1 hR.hto hch hlast]; rfl
  ·show (ZC w.network (newO w from_ to_ service weight due way) w.now).getD false=true
   rw [hst]; rfl
  ·rw [hcv]
   refine List.any_eq_false.2 fun t ht=>?_
   have htm:t∈way:=List.mem_of_mem_drop ht
   have:=(hR.found t htm).1
   rw [Zcs,Zb1 h.fit.closed] at this
   have:=Option.some.inj this
   show ¬ Z2 w.closed t=true
   unfold Z2
   rw [this]; simp
 have hold:∀ (i:Nat) (o:Zf),w.orders[i]?=some o→ZcY (accV w (newO w from_ to_ service weight due way) ys) i o=true:=fun i o hi=>by
  have hv:=Zd8 h.ok hi
  unfold ZcY at hv ⊢
  simp only [Bool.and_eq_true,Bool.not_eq_true',decide_eq_true_iff,decide_eq_false_iff_not] at hv ⊢
  obtain ⟨⟨⟨⟨⟨⟨⟨⟨⟨⟨⟨h1,h2⟩,h3⟩,h4⟩,h5⟩,h6⟩,h7⟩,h8⟩,h9⟩,h10⟩,h11⟩,h12⟩:=hv
  refine ⟨⟨⟨⟨⟨⟨⟨⟨⟨⟨⟨h1,h2⟩,h3⟩,h4⟩,h5⟩,h6⟩,h7⟩,h8⟩,?_⟩,h10⟩,h11⟩,h12⟩
  refine Zas.2 fun j t hj=>?_
  have:=Zas.1 h9 j t hj
  unfold wayC at this ⊢
  simp only [Bool.and_eq_true] at this ⊢
  exact ⟨⟨this.1.1,Zod hmem this.1.2⟩,this.2⟩
 refine ⟨⟨h.fit.net,?_,?_,h.fit.closed,?_,h.fit.skip,fun o ho=>?_⟩,?_⟩
 ·simp only [accV,ZbK,List.length_append,List.length_cons,List.length_nil]; omega
 ·simp only [accV,ZbK]; omega
 ·have:=hsc.len; simp only [accV,ZbK,newO]; omega
 ·have ho':o∈w.orders++[newO w from_ to_ service weight due way]:=ho
  rcases List.mem_append.1 ho' with ho | ho
  ·exact h.fit.way o ho
  ·obtain rfl:=List.mem_singleton.1 ho; simp only [newO]; omega
 ·unfold ZcB at hv ⊢
  simp only [Bool.and_eq_true,Bool.not_eq_true',decide_eq_true_iff,decide_eq_false_iff_not] at hv ⊢
  obtain ⟨⟨⟨⟨⟨⟨⟨⟨⟨⟨h1,h2⟩,h3⟩,h4⟩,h5⟩,h6⟩,h7⟩,h8⟩,h9⟩,h10⟩,h11⟩:=hv
  have hl:=hsc.len
  have hmd:=hsc.made
  refine ⟨⟨⟨⟨⟨⟨⟨⟨⟨⟨hb,h2⟩,?_⟩,h4⟩,?_⟩,h6⟩,?_⟩,h8⟩,?_⟩,?_⟩,?_⟩
  ·simp only [accV,ZbK,List.length_append,List.length_cons,List.length_nil]; omega
  ·simp only [accV,ZbK,newO]; omega
  ·simp only [accV,ZbK,newO]; omega
  ·refine Zas.2 fun j s hj=>?_
   obtain ⟨a,b⟩:=hsc.good s (List.mem_of_getElem? hj)
   show ((ZB w.network s).getD false && !decide (w.now<s.at_))=true
   rw [a,decide_eq_false (show ¬ w.now<s.at_ by omega)]; rfl
  ·refine Zas.2 fun j o hj=>?_
   rw [Nat.zero_add]
   have hj':(w.orders++[newO w from_ to_ service weight due way])[j]?=some o:=hj
   by_cases hjl:j<w.orders.length
   ·rw [List.getElem?_append_left hjl] at hj'
    exact hold j o hj'
   ·rw [List.getElem?_append_right (by omega)] at hj'
    have hj0:j-w.orders.length=0:=by
     have:=(List.getElem?_eq_some_iff.1 hj').1
     simp only [List.length_cons,List.length_nil] at this; omega
    rw [hj0] at hj'
    obtain rfl:newO w from_ to_ service weight due way=o:=by simpa using hj'
    rw [show j=w.orders.length by omega]
    exact hnew
  ·have h11':w.orders.foldl (fun a (o:Zf)=>w64 (a+(o.way.length:Int))) 0=(w.bookings.length:Int):=h11
   show (w.orders++[newO w from_ to_ service weight due way]).foldl (fun a (o:Zf)=>w64 (a+(o.way.length:Int))) 0=(ys.length:Int)
   rw [ZrT,h11']
   show w64 ((w.bookings.length:Int)+(way.length:Int))=_
   rw [Zo (by omega)]; omega
end
def ZhO (l:List Zc) (t:Ze):Int:=(l.map fun b=>if b.trip=t then b.weight else 0).sum
theorem Zov {l:List Zc} (hw:∀ b∈l,1≤b.weight∧b.weight≤1000000) (t:Ze):0≤ZhO l t∧ZhO l t≤1000000*l.length:=by
 induction l with
 | nil=>simp [ZhO]
 | cons x xs ih=>
  have hx:=hw x List.mem_cons_self
  have:=ih fun b hb=>hw b (List.mem_cons_of_mem _ hb)
  unfold ZhO at this ⊢
  rw [List.map_cons,List.sum_cons,List.length_cons]
  split <;> omega
theorem Zvr {l:List Zc} (hl:l.length≤1000) (hw:∀ b∈l,1≤b.weight∧b.weight≤1000000) (t:Ze):Zap l t=some (ZhO l t):=by
 unfold Zap
 have e:Zj (Zal l t) NN (0,0)=some (ZhO l t):=by
  have:=ZbW (body:=Zal l t) (fun i:Nat=>(ZhO (l.take i) t,(i:Int))) (n:=l.length) (o:=ZhO l t) (fun i hi=>?_) ?_ NN (by unfold NN; omega)
  ·simpa [ZhO] using this
  ·have ho:l[i]?=some l[i]:=List.getElem?_eq_getElem hi
   have hg:getI l (i:Int)=some l[i]:=by rw [Zn]; exact ho
   have hwi:w64 ((i:Int)+1)=((i+1:Nat):Int):=ZR hi (by omega)
   have hb:=Zov (l:=l.take i) (fun b hb=>hw b (List.mem_of_mem_take hb)) t
   have hx:=hw _ (List.getElem_mem hi)
   have hlen:(l.take i).length≤1000:=by rw [List.length_take]; omega
   unfold Zal
   have hs:ZhO (l.take (i+1)) t=ZhO (l.take i) t+(if l[i].trip=t then l[i].weight else 0):=by
    unfold ZhO
    rw [← ZgR ho,List.map_append,List.sum_append]; simp
   simp only [decide_eq_true (show (i:Int)<l.length by omega),cond_true,hg,Option.bind_some,hwi]
   rw [hs]
   by_cases ht:l[i].trip=t
   ·rw [decide_eq_true ht,if_pos ht,cond_true,Zo (by omega)]
   ·rw [decide_eq_false ht,if_neg ht,cond_false,Int.add_zero]
  ·unfold Zal
   simp
 rw [e]; rfl
def dueV (e service:Int):Int:=(e / 1440+(if 1080<e % 1440 then 1 else 0)+(if service=1 then 0 else if service=2 then 1 else 4))*1440+1080
theorem ZlD {n:Za} {service e at_:Int} {from_ to_:ByteArray} (he:ZaU n from_ to_ at_=some e) (h0:0≤e) (h1:e≤100000) (hs:1≤service∧service≤3):ZaO n service from_ to_ at_=some (dueV e service):=by
 unfold ZaO
 rw [he,Zej]
 simp only [Option.bind_some,ZbH]
 have d1:e.tdiv 1440=e / 1440:=Int.tdiv_eq_ediv_of_nonneg h0
 have d2:e.tmod 1440=e % 1440:=Int.tmod_eq_emod_of_nonneg h0
 have hb:0≤e / 1440∧e / 1440≤69:=by omega
 have hwr:IntKind.i64.wrap (e / 1440)=e / 1440:=Zo (by omega)
 have hk:∃ k:Int,0≤k∧k≤4∧getI ([0,1,4]:List Int) (w64 (service-1))=some k∧k=(if service=1 then 0 else if service=2 then 1 else 4):=by
  rw [Zo (by omega)]
  rcases (show service=1∨service=2∨service=3 by omega) with rfl | rfl | rfl
  ·exact ⟨0,by omega,by omega,rfl,by simp⟩
  ·exact ⟨1,by omega,by omega,rfl,by simp⟩
  ·exact ⟨4,by omega,by omega,rfl,by simp⟩
 obtain ⟨k,k0,k1,k2,k3⟩:=hk
 rw [d1,d2,hwr,decide_eq_true hs.1,decide_eq_true hs.2,decide_eq_false (show ¬ e=-1 by omega),k2]
 simp only [cond_false,Bool.and_self,Bool.not_true,Option.bind_some]
 unfold dueV
 rw [← k3]
 by_cases hd:1080<e % 1440
 ·rw [decide_eq_true hd,if_pos hd,cond_true]
  rw [Zo (n:=e / 1440+1) (by omega),Zo (n:=e / 1440+1+k) (by omega),Zo (n:=(e / 1440+1+k)*1440) (by omega),Zo (by omega)]
 ·rw [decide_eq_false hd,if_neg hd,cond_false]
  rw [Zo (n:=e / 1440+k) (by omega),Zo (n:=(e / 1440+k)*1440) (by omega),Zo (by omega),Int.add_zero]
theorem Zvk {e service:Int} (h0:0≤e) (h1:e≤100000):e≤dueV e service∧dueV e service≤200000:=by
 unfold dueV
 split <;> split <;> (try split) <;> omega
section
variable {n:Za} (hf:Z0 n) (hn:Zi n=some true) (hr:∀ l∈n.legs,1≤l.room)
include hf hn hr
end
theorem ZDS {l l':List Zc} (h:l.Perm l') (t:Ze):ZhO l t=ZhO l' t:=by
 induction h with
 | nil=>rfl
 | cons x _ ih=>unfold ZhO at *; rw [List.map_cons,List.map_cons,List.sum_cons,List.sum_cons,ih]
 | swap x y l=>unfold ZhO; simp only [List.map_cons,List.sum_cons]; omega
 | trans _ _ i1 i2=>rw [i1,i2]
theorem ZDR (th wt:Int):∀ (way:List Ze) (t:Ze),way.Nodup→ZhO (ZdR th wt way) t=if t∈way then wt else 0
 | [],t,_=>rfl
 | x::way,t,h=>by
  have ih:=ZDR th wt way t (List.nodup_cons.1 h).2
  have hx:=(List.nodup_cons.1 h).1
  unfold ZhO ZdR at *
  rw [List.map_cons,List.map_cons,List.sum_cons,ih]
  by_cases hxt:x=t
  ·subst hxt
   rw [if_pos rfl,if_neg hx,if_pos List.mem_cons_self]; exact Int.add_zero wt
  ·rw [if_neg hxt]
   by_cases ht:t∈way
   ·rw [if_pos ht,if_pos (List.mem_cons_of_mem _ ht)]; omega
   ·rw [if_neg ht,if_neg (fun hm=>by rcases List.mem_cons.1 hm with h | h; exact hxt h.symm; exact ht h)]; omega
section
variable {n:Za} (hf:Z0 n) (hn:Zi n=some true)
include hf hn
theorem Zux (leg at_:Int):ZeA leg at_ n=Zb4 leg at_ n [] [] 0:=by
 have hb:ZfO n leg at_=Zby leg at_ n [] [] 0:=by
  funext s
  unfold ZfO Zby
  rw [(Zf1 hf leg s).1]
  cases hd:decide (s≤60) with
  | false=>rfl
  | true=>
  cases hx:ZX n leg s with
  | none=>rfl
  | some b=>
  cases b with
  | false=>rfl
  | true=>
  obtain ⟨y,hy⟩:=ZiD hf hx
  have hlo:=(Zkv hf hn y (ZgX hy)).room
  have hm:(0:Int)≤y.room:=by omega
  have hw:w64 (y.room-0)=y.room:=by rw [Zo (by omega)]; omega
  have ht:ZaQ [] (⟨leg,s⟩:Ze)=some false:=by rw [Zb1 (by simp)]; rfl
  have hL:Zdc [] (⟨leg,s⟩:Ze)=some 0:=by rw [Zis]; exact Zl8 _
  simp only [cond_true,Option.bind_some,ht,hL,hy,hw,decide_eq_true hm,Bool.not_false]
 unfold ZeA Zb4 Zg2
 rw [hb]
 cases (Zj (Zby leg at_ n [] [] 0) NN 0).bind (ZY (fun o0=>some ((⟨0,0⟩:Ze),false)) fun r=>some r) with
 | none=>rfl
 | some r=>rfl
theorem ZmD (from_:ByteArray) (at_ legs:Int):ZcS n n from_ at_ legs=Zay n n [] [] 0 from_ at_ legs:=by
 have hb2:∀ legs y1 y2 s1,ZcX n n legs y1 y2 s1=Zaf n n [] [] 0 legs y1 y2 s1:=fun legs y1 y2 s1=>by
  funext s2
  unfold ZcX Zaf
  simp only [Zux hf hn]
 have hb1:∀ legs y1 y2,ZcW n n legs y1 y2=Zae n n [] [] 0 legs y1 y2:=fun legs y1 y2=>by
  funext s1
  unfold ZcW Zae
  rw [hb2]
 have hb0:∀ y1 y2,Zep n n at_ legs y1 y2=ZaE n n [] [] 0 at_ legs y1 y2:=fun y1 y2=>rfl
 unfold ZcS Zay
 simp only [hb0,hb1]
theorem ZiP {from_ to_:ByteArray} {at_:Int} (hfr:0≤idxV (Zb n) from_) (hat:at_≤100000) (hto:0≤idxV (Zb n) to_) {e:Int} (he:getI (Z6 n [] [] 0 (idxV (Zb n) from_) at_ (Zb n).length) (idxV (Zb n) to_)=some e):ZaU n from_ to_ at_=some e:=by
 have hlg:=Zff hn
 have hp:(Zb n).length≤40:=by have:=Zaz n; omega
 have hpl:=(Ze2 (Zb n) to_).2
 have hbl:=Zfb hf (l:=[]) (by simp) (closed:=[]) (by simp) 0 (idxV (Zb n) from_) at_ (Zb n).length
 have hav:=Zk9 hf (l:=[]) (by simp) (closed:=[]) (by simp) 0 hfr hat (by omega) (Zb n).length (by omega)
 have hpa:Zz (Zb n) to_=some (idxV (Zb n) to_):=by rw [ZdT]; exact Zgk hf to_
 have hi:Z8 n=some true:=by rw [(Zb2 hf).1]; exact hn
 unfold ZaU Zd0 Zf9
 rw [(Zac hf).1,(Zac hf).2,hi]
 simp only [Option.bind_some,Bool.not_true,cond_false,ZmD hf hn,hav,hpa,decide_eq_false (show ¬ idxV (Zb n) to_<0 by omega),decide_eq_false (show ¬ (((Z6 n [] [] 0 (idxV (Zb n) from_) at_ (Zb n).length).length:Int)=0) by rw [hbl]; omega),he]
theorem ZnU {t:Ze} (ht:ZbJ n t=true) {y:YLeg} (hy:getI n.legs t.leg=some y):ZM n t=t.day*1440+y.start∧Z7 n t=t.day*1440+y.start+y.takes:=by
 obtain ⟨d0,d1⟩:=ZiH ht
 have hl:=Zkv hf hn y (ZgX hy)
 obtain ⟨a0,a1⟩:=hl.start
 obtain ⟨b0,b1⟩:=hl.takes
 have e1:Zp n t=some (t.day*1440+y.start):=by
  unfold Zp
  rw [hy]
  simp only [Option.bind_some]
  rw [Zo (n:=t.day*1440) (by omega),Zo (by omega)]
 have e2:Zq n t=some (t.day*1440+y.start+y.takes):=by
  unfold Zq
  rw [e1,hy]
  simp only [Option.bind_some]
  rw [Zo (by omega)]
 exact ⟨by unfold ZM; rw [e1]; rfl,by unfold Z7; rw [e2]; rfl⟩
theorem ZwA {leg d0 z:Int} (ht:ZbJ n ⟨leg,d0⟩=true) (hz:z≤ZM n ⟨leg,d0⟩):∃ d,Z1 n [] [] leg z 0=some d∧0≤d∧d≤d0∧ZbJ n ⟨leg,d⟩=true:=by
 obtain ⟨d1,d2⟩:=ZiH ht
 simp only at d1 d2
 obtain ⟨y,hy,hym⟩:=Zah hf ht
 have hlo:=(Zkv hf hn y hym).room
 have hc:Zaq []=fun _=>some false:=by
  funext t
  rw [Zcs,Zb1 (by simp)]; rfl
 have hw:w64 (y.room-0)=y.room:=by rw [Zo (by omega)]; omega
 have hstep:∀ s:Int,0≤s→s≤60→ZV n [] [] leg z 0 s=some (if ZbJ n ⟨leg,s⟩=true∧z≤ZM n ⟨leg,s⟩ then .inr (.inr s) else .inl (s+1)):=fun s s0 s1=>by
  have hws:w64 (s+1)=s+1:=Zo (by omega)
  have hr:=ZgB hf ⟨leg,s⟩
  simp only at hr
  unfold ZV
  rw [decide_eq_true s1,cond_true,hr,Option.bind_some,hws]
  cases hb:ZbJ n ⟨leg,s⟩ with
  | false=>simp
  | true=>
  obtain ⟨t1,_⟩:=ZI hf hn hb
  simp only [cond_true,t1,Option.bind_some,hc,Bool.not_false,hy,Zl8,hw,decide_eq_true (show (0:Int)≤y.room by omega),true_and]
  by_cases h:z≤ZM n ⟨leg,s⟩
  ·rw [decide_eq_true h,if_pos h]; rfl
  ·rw [decide_eq_false h,if_neg h]; rfl
 have key:∀ (k:Nat) (s:Int),0≤s→s+(k:Int)=d0→∀ N,k<N→∃ d,Zj (ZV n [] [] leg z 0) N s=some (.inr d)∧s≤d∧d≤d0∧ZbJ n ⟨leg,d⟩=true:=by
  intro k
  induction k with
  | zero=>
   intro s s0 hs N hN
   obtain ⟨N,rfl⟩:∃ M,N=M+1:=⟨N-1,by omega⟩
   obtain rfl:s=d0:=by omega
   refine ⟨s,?_,Int.le_refl _,Int.le_refl _,ht⟩
   unfold Zj
   rw [hstep s s0 d2,if_pos ⟨ht,hz⟩]
   rfl
  | succ k ih=>
   intro s s0 hs N hN
   obtain ⟨N,rfl⟩:∃ M,N=M+1:=⟨N-1,by omega⟩
   unfold Zj
   rw [hstep s s0 (by omega)]
   by_cases h:ZbJ n ⟨leg,s⟩=true∧z≤ZM n ⟨leg,s⟩
   ·rw [if_pos h]
    exact ⟨s,rfl,Int.le_refl _,by omega,h.1⟩
   ·rw [if_neg h]
    obtain ⟨d,e1,e2,e3,e4⟩:=ih (s+1) (by omega) (by omega) N (by omega)
    exact ⟨d,e1,by omega,e3,e4⟩
 obtain ⟨d,e1,e2,e3,e4⟩:=key d0.toNat 0 (by omega) (by omega) NN (by unfold NN; omega)
 refine ⟨d,?_,e2,e3,e4⟩
 unfold Z1
 rw [e1]
 rfl
theorem Zxn {f at_:Int} {k:Nat} {u:Int} {t:Ze} (ht:ZbJ n t=true) (hl:LeAt (Z6 n [] [] 0 f at_ k) (idxV (Zb n) (ZbL n t)) u) (hu:(if idxV (Zb n) (ZbL n t)=f then u else u+n.change)≤ZM n t):
 LeAt (Z6 n [] [] 0 f at_ (k+1)) (idxV (Zb n) (ZL n t)) (Z7 n t):=by
 obtain ⟨y,hy,hym⟩:=Zah hf ht
 have f1:ZbL n t=y.from_:=by unfold ZbL; rw [hy]; rfl
 have f2:ZL n t=y.to_:=by unfold ZL; rw [hy]; rfl
 obtain ⟨n0,n1⟩:=ZbB hn
 obtain ⟨_,_,_,t4,t5⟩:=ZI hf hn ht
 rw [f1] at hl hu
 rw [f2]
 obtain ⟨v,v1,v2,v3⟩:=hl
 have hus:u≤ZM n t:=by split at hu <;> omega
 obtain ⟨i0,hi⟩:=Zdb hy
 have hz:Zag n v (decide (idxV (Zb n) y.from_=f))=some (if idxV (Zb n) y.from_=f then v else v+n.change):=by
  unfold Zag
  by_cases h:idxV (Zb n) y.from_=f
  ·rw [decide_eq_true h,if_pos h]; rfl
  ·rw [decide_eq_false h,if_neg h,cond_false,Zo (by omega)]
 have hzl:(if idxV (Zb n) y.from_=f then v else v+n.change)≤ZM n ⟨t.leg,t.day⟩:=by
  show _≤ZM n t
  split at hu <;> split <;> omega
 obtain ⟨d,e1,e2,e3,e4⟩:=ZwA hf hn (leg:=t.leg) (d0:=t.day) ht hzl
 obtain ⟨_,q2,_⟩:=ZI hf hn e4
 have hlt:t.leg=((t.leg.toNat:Nat):Int):=by omega
 have hcand:Cand n [] [] 0 f (Z6 n [] [] 0 f at_ k) (idxV (Zb n) y.to_) (Z7 n ⟨t.leg,d⟩):=by
  refine ⟨t.leg.toNat,y,d,v,_,hi,rfl,v1,by omega,hz,?_,by omega,?_⟩
  ·rw [← hlt]; exact e1
  ·rw [← hlt]; exact q2
 obtain ⟨x,x1,x2,x3⟩:=(ZiM hf hn (l:=[]) (by simp) (closed:=[]) (by simp) 0 f at_ k).2 _ _ hcand
 refine ⟨x,x1,x2,?_⟩
 have g1:=(ZnU hf hn ht hy).2
 have g2:=(ZnU hf hn e4 hy).2
 simp only at g2
 omega
theorem ZlX {f at_:Int}:∀ (way:List Ze) (p:ByteArray) (z u:Int) (k:Nat),ZbG n p z way→LeAt (Z6 n [] [] 0 f at_ k) (idxV (Zb n) p) u→(if idxV (Zb n) p=f then u else u+n.change)≤z→
 ∀ t,way.getLast?=some t→LeAt (Z6 n [] [] 0 f at_ (k+way.length)) (idxV (Zb n) (ZL n t)) (Z7 n t)
 | [],p,z,u,k,_,_,_,t,ht=>by simp at ht
 | x::way,p,z,u,k,hc,hl,hu,t,ht=>by
  obtain ⟨c1,c2,c3,c4⟩:=hc
  obtain ⟨n0,n1⟩:=ZbB hn
  subst c2
  have h1:=Zxn hf hn (t:=x) c1 hl (by omega)
  cases way with
  | nil=>
   obtain rfl:x=t:=by simpa using ht
   exact h1
  | cons y way=>
   rw [List.getLast?_cons_cons] at ht
   have:=ZlX (y::way) (ZL n x) (Z7 n x+n.change) (Z7 n x) (k+1) c4 h1 (by split <;> omega) t ht
   rw [show k+(x::y::way).length=k+1+(y::way).length by simp only [List.length_cons]; omega]
   exact this
theorem ZlK {from_:ByteArray} {at_:Int} {way:List Ze} (hfr:0≤idxV (Zb n) from_) (hnd:(from_::way.map (ZL n)).Nodup) (hc:ZbG n from_ at_ way):way.length≤(Zb n).length:=by
 have hpl:∀ p∈from_::way.map (ZL n),0≤idxV (Zb n) p:=fun p hp=>by
  rcases List.mem_cons.1 hp with rfl | hp
  ·exact hfr
  ·obtain ⟨t,ht,rfl⟩:=List.mem_map.1 hp
   obtain ⟨y,hy,hym⟩:=Zah hf (Zek hc t ht)
   have f2:ZL n t=y.to_:=by unfold ZL; rw [hy]; rfl
   rw [f2]
   exact ZeW (Zf0 hym).2
 have h2:((from_::way.map (ZL n)).map fun p=>(idxV (Zb n) p).toNat).Nodup:=by
  unfold List.Nodup at hnd ⊢
  rw [List.pairwise_map]
  refine hnd.imp_of_mem fun {a b} ha hb hne e=>hne ?_
  have h1:=hpl a ha
  have h2:=hpl b hb
  have he:idxV (Zb n) a=idxV (Zb n) b:=by omega
  have g1:=ZfZ h1
  have g2:=ZfZ h2
  rw [he,g2] at g1
  exact (Option.some.inj g1).symm
 have:=Zkx (Zb n).length _ h2 fun x hx=>by
  obtain ⟨p,hp,rfl⟩:=List.mem_map.1 hx
  have:=hpl p hp
  have:=(Ze2 (Zb n) p).2
  omega
 simp only [List.length_map,List.length_cons] at this
 omega
theorem Zlb {l:List Zc} (hl:l.length≤1048576) {closed:List Ze} (hc:closed.length≤1048576) {from_ to_:ByteArray} {at_ weight:Int} {way:List Ze} (h:Zy n l closed from_ to_ at_ weight=some (way,true)):
 ∃ e,LeAt (Z6 n [] [] 0 (idxV (Zb n) from_) at_ (Zb n).length) (idxV (Zb n) to_) e∧e≤100000:=by
 have hR:=ZfW hf hl hc h
 obtain ⟨q1,q2,q3,q4⟩:=hR.hC
 have hlg:=Zff hn
 have hp:(Zb n).length≤40:=by have:=Zaz n; omega
 have hlt:=(Ze2 (Zb n) from_).2
 obtain ⟨n0,n1⟩:=ZbB hn
 have hb0:getI (Z6 n [] [] 0 (idxV (Zb n) from_) at_ 0) (idxV (Zb n) from_)=some (if 0 > at_ then 0 else at_):=by
  unfold Z6
  rw [Zl1 hf (by omega) _ ⟨q2,hlt⟩]
  exact Zf6 q2 (by rw [List.length_replicate]; omega)
 have h0:LeAt (Z6 n [] [] 0 (idxV (Zb n) from_) at_ 0) (idxV (Zb n) from_) (if 0 > at_ then 0 else at_):=⟨_,hb0,by split <;> omega,Int.le_refl _⟩
 have hlast:=hR.last
 cases hw:way.getLast? with
 | none=>
  obtain rfl:way=[]:=List.getLast?_eq_none_iff.1 hw
  obtain rfl:from_=to_:=by simpa using hlast
  have:=Zhd hf hn (l:=[]) (by simp) (closed:=[]) (by simp) 0 at_ (idxV (Zb n) from_) hb0 (by split <;> omega) (Zb n).length
  rw [Nat.zero_add] at this
  exact ⟨_,this,by split <;> omega⟩
 | some t=>
  have hch:=hR.chain
  have htr:=Zek hch t (List.mem_of_getLast? hw)
  obtain ⟨_,_,_,_,t5⟩:=ZI hf hn htr
  have hto:ZL n t=to_:=by
   cases way with
   | nil=>simp at hw
   | cons x xs=>
    rw [List.map_cons,List.getLast?_cons_cons,← List.map_cons,List.getLast?_map,hw] at hlast
    exact Option.some.inj hlast
  have h1:=ZlX hf hn way from_ _ _ 0 hch h0 (by rw [if_pos rfl]; exact Int.le_refl _) t hw
  have hwl:=ZlK hf hn q2 hR.nodup hch
  rw [Nat.zero_add,hto] at h1
  obtain ⟨v,v1,v2,v3⟩:=h1
  obtain ⟨v',w1,w2,w3⟩:=Zhd hf hn (l:=[]) (by simp) (closed:=[]) (by simp) 0 at_ (idxV (Zb n) from_) v1 v2 ((Zb n).length-way.length)
  rw [show way.length+((Zb n).length-way.length)=(Zb n).length by omega] at w1
  exact ⟨v',⟨v',w1,w2,Int.le_refl _⟩,by omega⟩
theorem ZoL {l:List Zc} (hl:l.length≤1048576) {closed:List Ze} (hc:closed.length≤1048576) {from_ to_:ByteArray} {at_ weight service:Int} (hs:1≤service∧service≤3) {way:List Ze} (h:Zy n l closed from_ to_ at_ weight=some (way,true)):
 ∃ d,ZaO n service from_ to_ at_=some d∧0≤d∧d≤200000:=by
 have hR:=ZfW hf hl hc h
 obtain ⟨q1,q2,q3,q4⟩:=hR.hC
 have hfin:=Zlb hf hn hl hc h
 obtain ⟨e,⟨v,v1,v2,v3⟩,he⟩:=hfin
 have:=Zvk (service:=service) v2 (show v≤100000 by omega)
 exact ⟨_,ZlD (ZiP hf hn q2 q3 hR.hto v1) v2 (by omega) hs,by omega,this.2⟩
end
theorem ZgM {α:Type} [DecidableEq α]:∀ {xs ys:List α},xs.Nodup→(∀ x∈xs,x∈ys)→xs.length≤ys.length
 | [],ys,_,_=>Nat.zero_le _
 | x::xs,ys,hn,hs=>by
  obtain ⟨h1,h2⟩:=List.nodup_cons.1 hn
  have hx:=hs x (by simp)
  have:=ZgM (ys:=ys.erase x) h2 fun y hy=>(List.mem_erase_of_ne (fun e:y=x=>h1 (e ▸ hy))).2 (hs y (by simp [hy]))
  rw [List.length_erase_of_mem hx] at this
  have:=List.length_pos_of_mem hx
  simp only [List.length_cons]; omega
theorem Ztx {α:Type} (f:α→Nat):∀ {l:List α} {i:Nat} {o:α} (x:α),l[i]?=some o→((l.set i x).map f).sum+f o=(l.map f).sum+f x
 | [],_,_,_,h=>by simp at h
 | a::l,0,o,x,h=>by
  obtain rfl:a=o:=by simpa using h
  simp only [List.set_cons_zero,List.map_cons,List.sum_cons]; omega
 | a::l,i+1,o,x,h=>by
  have:=Ztx f x (l:=l) (i:=i) (o:=o) (by simpa using h)
  simp only [List.set_cons_succ,List.map_cons,List.sum_cons]; omega
theorem ZnW:∀ (os:List Zf) (a:Nat),(∀ o∈os,o.way.length≤1048576)→a+1048576*os.length≤1099511627776→os.foldl (fun a (o:Zf)=>w64 (a+(o.way.length:Int))) (a:Int)=((a+(os.map fun o=>o.way.length).sum:Nat):Int)
 | [],a,_,_=>by simp
 | o::os,a,h,hb=>by
  have h1:=h o (by simp)
  simp only [List.length_cons] at hb
  rw [List.foldl_cons,Zo (by omega),show ((a:Int)+(o.way.length:Int))=((a+o.way.length:Nat):Int) by omega,ZnW os _ (fun x hx=>h x (by simp [hx])) (by omega)]
  simp only [List.map_cons,List.sum_cons]; omega
/-! Ways in two parts. -/
section
variable {n:Za}
def endP (n:Za) (p:ByteArray) (ts:List Ze):ByteArray:=ts.foldl (fun _ t=>ZL n t) p
def endA (n:Za) (a:Int) (ts:List Ze):Int:=ts.foldl (fun _ t=>Z7 n t+n.change) a
theorem Zhf:∀ (xs:List Ze) {ys:List Ze} {p:ByteArray} {a:Int},ZbG n p a (xs++ys)↔ZbG n p a xs∧ZbG n (endP n p xs) (endA n a xs) ys
 | [],ys,p,a=>by simp [ZbG,endP,endA]
 | x::xs,ys,p,a=>by
  have:=Zhf xs (ys:=ys) (p:=ZL n x) (a:=Z7 n x+n.change)
  simp only [List.cons_append,ZbG,endP,endA,List.foldl_cons] at this ⊢
  rw [this]
  constructor
  ·rintro ⟨h1,h2,h3,h4,h5⟩; exact ⟨⟨h1,h2,h3,h4⟩,h5⟩
  ·rintro ⟨⟨h1,h2,h3,h4⟩,h5⟩; exact ⟨h1,h2,h3,h4,h5⟩
theorem Zi7 {ts:List Ze} {p:ByteArray} {a b:Int} (h:ZbG n p a ts) (hab:b≤a):ZbG n p b ts:=by
 cases ts with
 | nil=>trivial
 | cons t ts=>exact ⟨h.1,h.2.1,Int.le_trans hab h.2.2.1,h.2.2.2⟩
variable (hf:Z0 n) (hn:Zi n=some true)
include hf hn
theorem Zhz:∀ {ts:List Ze} {p:ByteArray} {a:Int},ZbG n p a ts→∀ t∈ts,a≤ZM n t
 | x::ts,p,a,h,t,ht=>by
  rcases List.mem_cons.1 ht with rfl | ht
  ·exact h.2.2.1
  ·obtain ⟨t1,t2,t3,t4,t5⟩:=ZI hf hn h.1
   obtain ⟨c0,c1⟩:=ZbB hn
   have:=Zhz h.2.2.2 t ht
   have:=h.2.2.1
   omega
theorem Zig:∀ {ts:List Ze} {p:ByteArray} {a:Int},ZbG n p a ts→ts.Pairwise fun x y=>ZM n x<ZM n y
 | [],_,_,_=>List.Pairwise.nil
 | x::ts,p,a,h=>by
  obtain ⟨t1,t2,t3,t4,t5⟩:=ZI hf hn h.1
  obtain ⟨c0,c1⟩:=ZbB hn
  refine List.pairwise_cons.2 ⟨fun y hy=>?_,Zig h.2.2.2⟩
  have:=Zhz hf hn h.2.2.2 y hy
  omega
theorem Zh1 {ts:List Ze} {p:ByteArray} {a:Int} (h:ZbG n p a ts):ts.Nodup:=by
 unfold List.Nodup
 exact (Zig hf hn h).imp fun {a b} hlt e=>by rw [e] at hlt; omega
theorem Zme {p:ByteArray} (hp:0≤idxV (Zb n) p) {ts:List Ze} (h:∀ t∈ts,ZbJ n t=true):0≤idxV (Zb n) (endP n p ts):=by
 induction ts generalizing p with
 | nil=>exact hp
 | cons t ts ih=>
  obtain ⟨y,hy,hym⟩:=Zah hf (h t (by simp))
  have e:ZL n t=y.to_:=by unfold ZL; rw [hy]; rfl
  have:=ih (p:=ZL n t) (by rw [e]; exact ZeW (Zf0 hym).2) fun x hx=>h x (by simp [hx])
  exact this
end
theorem Zvp {l:List ByteArray} {p:ByteArray} (h:0≤idxV l p):p∈l:=by
 unfold idxV at h
 cases hx:l.findIdx? fun y=>decide (y=p) with
 | none=>rw [hx] at h; simp at h
 | some k=>
  obtain ⟨h1,h2,_⟩:=List.findIdx?_eq_some_iff_getElem.1 hx
  exact of_decide_eq_true h2 ▸ List.getElem_mem h1
theorem Zfq {n:Za} {p:ByteArray}:∀ {ts:List Ze} {t:Ze},ts.getLast?=some t→endP n p ts=ZL n t
 | [],_,h=>by simp at h
 | [x],t,h=>by obtain rfl:x=t:=by simpa using h
               rfl
 | x::y::ts,t,h=>by
  have:=Zfq (n:=n) (p:=ZL n x) (ts:=y::ts) (t:=t) (by simpa using h)
  exact this
theorem Zj6 {n:Za} {a:Int}:∀ {ts:List Ze} {t:Ze},ts.getLast?=some t→endA n a ts=Z7 n t+n.change
 | [],_,h=>by simp at h
 | [x],t,h=>by obtain rfl:x=t:=by simpa using h
               rfl
 | x::y::ts,t,h=>by
  have:=Zj6 (n:=n) (a:=Z7 n x+n.change) (ts:=y::ts) (t:=t) (by simpa using h)
  exact this
theorem ZdV {α:Type} {l:List α} {k:Nat} (h0:0<k) (h1:k≤l.length):(l.take k).getLast?=l[k-1]?:=by
 rw [List.getLast?_eq_getElem?,List.length_take,Nat.min_eq_left h1,List.getElem?_take,if_pos (by omega)]
/-! Bookings of which some are Zgx. -/
def Zgh (id:Int) (rest:List Ze) (bs:List Zc):List Zc:=bs.filter fun b=>!(decide (b.thing=id) && Z2 rest b.trip)
theorem ZaX {l:List Ze} {t:Ze}:Z2 l t=true↔t∈l:=by
 unfold Z2
 rw [List.any_eq_true]
 exact ⟨fun ⟨x,h1,h2⟩=>of_decide_eq_true h2 ▸ h1,fun h=>⟨t,h,decide_eq_true rfl⟩⟩
theorem Znb {id:Int} {rest:List Ze} {bs:List Zc} {b:Zc}:b∈Zgh id rest bs↔b∈bs∧¬ (b.thing=id∧b.trip∈rest):=by
 unfold Zgh
 rw [List.mem_filter]
 simp only [Bool.not_eq_true',Bool.and_eq_false_imp,decide_eq_true_iff,not_and]
 refine and_congr_right fun _=>⟨fun h h1 h2=>?_,fun h h1=>?_⟩
 ·have:=h h1; rw [ZaX.2 h2] at this; cases this
 ·cases hc:Z2 rest b.trip with
  | false=>rfl
  | true=>exact absurd (ZaX.1 hc) (h h1)
theorem ZrM (id:Int) (bs:List Zc):Zgh id [] bs=bs:=by
 unfold Zgh
 exact List.filter_eq_self.2 fun b _=>by simp [Z2]
theorem Zsf {l l':List Zc} (h:l'.Sublist l) (hw:∀ b∈l,1≤b.weight∧b.weight≤1000000) (t:Ze):ZhO l' t≤ZhO l t:=by
 induction h with
 | slnil=>exact Int.le_refl _
 | cons a h ih=>
  have:=ih fun b hb=>hw b (by simp [hb])
  have:=hw a (by simp)
  unfold ZhO at *
  simp only [List.map_cons,List.sum_cons]
  split <;> omega
 | cons_cons a h ih=>
  have:=ih fun b hb=>hw b (by simp [hb])
  unfold ZhO at *
  simp only [List.map_cons,List.sum_cons]
  omega
theorem ZjT {n:Za} (hf:Z0 n) {l l':List Zc} (hb:ZZ n l=true) (hs:l'.Sublist l):ZZ n l'=true:=by
 obtain ⟨hn,hl⟩:=Zav hb
 have hll:=hs.length_le
 have hw:∀ b∈l,1≤b.weight∧b.weight≤1000000:=fun b hm=>by
  obtain ⟨i,hi,rfl⟩:=List.getElem_of_mem hm
  have h1:=(Zjr hb hi).1
  unfold bk1 at h1
  rw [List.getElem?_eq_getElem hi] at h1
  simp only [Bool.and_eq_true,decide_eq_true_iff] at h1
  exact h1.1.2
 have hp:l'.Pairwise fun a b=>befB a b=true:=by
  refine List.Pairwise.sublist hs ?_
  exact List.pairwise_iff_getElem.2 fun i j hi hj hij=>ZgU hb j i hj hij
 unfold ZZ
 rw [hn]
 simp only [Option.getD_some,Bool.true_and,Bool.and_eq_true,decide_eq_true_iff]
 refine ⟨by omega,List.all_eq_true.2 fun i hi=>?_⟩
 have hi':i<l'.length:=List.mem_range.1 hi
 obtain ⟨j,hj,hje⟩:=List.getElem_of_mem (hs.subset (List.getElem_mem hi'))
 obtain ⟨b1,b2⟩:=Zjr hb hj
 unfold bk1 at b1
 unfold bk2 at b2
 rw [List.getElem?_eq_getElem hj,hje] at b1 b2
 simp only [Bool.and_eq_true] at b1 ⊢
 constructor
 ·unfold bk1
  rw [List.getElem?_eq_getElem hi']
  simp only [Bool.and_eq_true]
  refine ⟨b1.1,?_⟩
  cases i with
  | zero=>rfl
  | succ i=>
   have hi2:i<l'.length:=by omega
   have:=List.pairwise_iff_getElem.1 hp i (i+1) hi2 hi' (by omega)
   rw [show i+1-1=i by omega,List.getElem?_eq_getElem hi2]
   simp only [this,Bool.or_true]
 ·unfold bk2
  rw [List.getElem?_eq_getElem hi']
  have hw':∀ b∈l',1≤b.weight∧b.weight≤1000000:=fun b hb=>hw b (hs.subset hb)
  simp only [Zvr (show l.length≤1000 by omega) hw] at b2
  simp only [Zvr (show l'.length≤1000 by omega) hw']
  cases hg:getI n.legs l'[i].trip.leg with
  | none=>rw [hg] at b2; cases b2
  | some g=>
   rw [hg] at b2
   simp only [Bool.not_eq_true',decide_eq_false_iff_not] at b2 ⊢
   have:=Zsf hs hw l'[i].trip
   omega
theorem Zhj (id:Int) (rest:List Ze) (bs:List Zc):(Zgh id rest bs).Sublist bs:=List.filter_sublist
theorem Zoe {n:Za} {l:List Zc} (hb:ZZ n l=true):l.Nodup:=by
 unfold List.Nodup
 refine List.pairwise_iff_getElem.2 fun i j hi hj hij e=>?_
 have:=ZgU hb j i hj hij
 rw [ZlQ (by rw [e]) (by rw [e])] at this
 cases this
theorem ZrL {n:Za} {l:List Zc} (hb:ZZ n l=true) {id wt:Int} {rest:List Ze} (hr:rest.Nodup) (hm:∀ t∈rest,(⟨id,t,wt⟩:Zc)∈l):(Zgh id rest l).length+rest.length=l.length:=by
 have hu:=Zld hb
 have e:=List.length_eq_countP_add_countP (p:=fun b:Zc=>decide (b.thing=id) && Z2 rest b.trip) (l:=l)
 have e2:l.countP (fun b=>decide ¬ (decide (b.thing=id) && Z2 rest b.trip)=true)=(Zgh id rest l).length:=by
  rw [List.countP_eq_length_filter]
  unfold Zgh
  congr 2
  funext b
  cases decide (b.thing=id) && Z2 rest b.trip <;> rfl
 have e3:l.countP (fun b:Zc=>decide (b.thing=id) && Z2 rest b.trip)=rest.length:=by
  rw [List.countP_eq_length_filter]
  refine Nat.le_antisymm ?_ ?_
  ·have el:((l.filter fun b=>decide (b.thing=id) && Z2 rest b.trip).map fun b:Zc=>b.trip).length=(l.filter fun b=>decide (b.thing=id) && Z2 rest b.trip).length:=List.length_map ..
   rw [← el]
   refine ZgM ?_ fun t ht=>?_
   ·unfold List.Nodup
    rw [List.pairwise_map]
    refine (List.Pairwise.sublist List.filter_sublist (Zoe hb)).imp_of_mem fun {a b} ha hb' hne e=>hne ?_
    have ha:=List.mem_filter.1 ha
    have hb':=List.mem_filter.1 hb'
    simp only [Bool.and_eq_true,decide_eq_true_iff] at ha hb'
    exact hu a ha.1 b hb'.1 (ha.2.1.trans hb'.2.1.symm) e
   ·obtain ⟨b,hb1,rfl⟩:=List.mem_map.1 ht
    have:=(List.mem_filter.1 hb1).2
    simp only [Bool.and_eq_true] at this
    exact ZaX.1 this.2
  ·have el:(rest.map fun t=>(⟨id,t,wt⟩:Zc)).length=rest.length:=List.length_map ..
   rw [← el]
   refine ZgM ?_ fun b hb1=>?_
   ·unfold List.Nodup
    rw [List.pairwise_map]
    exact hr.imp fun {a b} hne e=>hne (by simpa using e)
   ·obtain ⟨t,ht,rfl⟩:=List.mem_map.1 hb1
    refine List.mem_filter.2 ⟨hm t ht,?_⟩
    simp only [decide_true,Bool.true_and]
    exact ZaX.2 ht
 rw [e3] at e
 have e':l.length=rest.length+l.countP (fun b=>decide ¬ (decide (b.thing=id) && Z2 rest b.trip)=true):=e
 rw [e2] at e'
 omega
end Go.Proofs.YtmcdjilbkmhfoaaGreat
namespace Go.Proofs.YtmcdjilbkmhfoaaGreat
set_option maxRecDepth 10000
open Go.RowKit Go.Lib
set_option linter.unusedVariables false
set_option linter.unusedSimpArgs false
@[go_sem] theorem fnSC:isFn Tryz.prog 254:=⟨_,Tryz.func254,rfl,by kernel_rfl⟩
def ZdP (a b:ByteArray):Option Int:=some (Lib.compareBytes a.data.toList b.data.toList)
theorem Zix (a b:ByteArray) {r:Int} (H:ZdP a b=some r):Zev Tryz.prog 254 [vs a,vs b] [] (vi r) []:=by
 unfold ZdP at H
 obtain rfl:=Option.some.inj H
 refine ZvS rfl fun S β w args hS hl ha=>?_
 obtain ⟨x0,q0,r0⟩:=ha 0 _ rfl
 obtain ⟨x1,q1,r1⟩:=ha 1 _ rfl
 obtain rfl:=ZlF r0
 obtain rfl:=ZlF r1
 have hl2:args.size=2:=hl
 have hargs:args=#[Value.string a,Value.string b]:=by
  apply Array.ext (by rw [hl2]; rfl)
  intro i h2 h3
  have a0:=(Array.getElem?_eq_some_iff.1 q0).2
  have a1:=(Array.getElem?_eq_some_iff.1 q1).2
  match i,h2 with
  | 0,_=>simpa using a0
  | 1,_=>simpa using a1
  | i+2,h2=>omega
 rw [hargs]
 refine (Tryz.strings_Compare a b w).mono ?_
 rintro e w' ⟨rfl,rfl⟩
 exact ⟨rfl,Up.rfl' _⟩
instance (a b:ByteArray):CT Tryz.prog (ZdP a b):=⟨254,[vs a,vs b],[],fun r=>vi r,fun r=>[],Zix a b⟩
def lexB (a b:ByteArray):Bool:=decide (Lib.compareBytes a.data.toList b.data.toList<0)
theorem Zrw:∀ l:List UInt8,Lib.compareBytes l l=0
 | []=>rfl
 | a::l=>by
  unfold Lib.compareBytes
  rw [if_neg (by simp),if_neg (by simp)]
  exact Zrw l
theorem ZlV:∀ {a b:List UInt8},Lib.compareBytes a b=0→a=b
 | [],[],_=>rfl
 | [],_::_,h=>by simp [Lib.compareBytes] at h
 | _::_,[],h=>by simp [Lib.compareBytes] at h
 | a::as_,b::bs,h=>by
  unfold Lib.compareBytes at h
  split at h
  ·simp at h
  ·rename_i h1
   split at h
   ·simp at h
   ·rename_i h2
    have:a=b:=by
     have h1':=UInt8.not_lt.1 h1
     have h2':=UInt8.not_lt.1 h2
     exact UInt8.le_antisymm h2' h1'
    rw [this,ZlV h]
theorem ZjZ:∀ a b:List UInt8,Lib.compareBytes a b=- Lib.compareBytes b a
 | [],[]=>by simp [Lib.compareBytes]
 | [],_::_=>by simp [Lib.compareBytes]
 | _::_,[]=>by simp [Lib.compareBytes]
 | a::as_,b::bs=>by
  unfold Lib.compareBytes
  by_cases h1:a<b
  ·rw [if_pos h1,if_neg (fun h=>by have:=UInt8.lt_asymm h1; exact this h),if_pos h1]
  ·rw [if_neg h1]
   by_cases h2:b<a
   ·rw [if_pos h2,if_pos h2]; rfl
   ·rw [if_neg h2,if_neg h2,if_neg h1]
    exact ZjZ as_ bs
theorem ZlU:∀ {a b c:List UInt8},Lib.compareBytes a b<0→Lib.compareBytes b c<0→Lib.compareBytes a c<0
 | [],_,[],h1,h2=>by
  rename_i b
  cases b with
  | nil=>simp [Lib.compareBytes] at h1
  | cons x xs=>simp [Lib.compareBytes] at h2
 | [],_,_::_,_,_=>by simp [Lib.compareBytes]
 | _::_,[],_,h1,_=>by simp [Lib.compareBytes] at h1
 | _::_,_::_,[],_,h2=>by simp [Lib.compareBytes] at h2
 | a::as_,b::bs,c::cs,h1,h2=>by
  unfold Lib.compareBytes at h1 h2 ⊢
  by_cases a1:a<b
  ·by_cases b1:b<c
   ·rw [if_pos (UInt8.lt_trans a1 b1)]; decide
   ·rw [if_neg b1] at h2
    by_cases b2:c<b
    ·rw [if_pos b2] at h2; exact absurd h2 (by decide)
    ·have:b=c:=UInt8.le_antisymm (UInt8.not_lt.1 b2) (UInt8.not_lt.1 b1)
     rw [if_pos (this ▸ a1)]; decide
  ·rw [if_neg a1] at h1
   by_cases a2:b<a
   ·rw [if_pos a2] at h1; exact absurd h1 (by decide)
   ·rw [if_neg a2] at h1
    have hab:a=b:=UInt8.le_antisymm (UInt8.not_lt.1 a2) (UInt8.not_lt.1 a1)
    subst hab
    by_cases b1:a<c
    ·rw [if_pos b1]; decide
    ·rw [if_neg b1] at h2 ⊢
     by_cases b2:c<a
     ·rw [if_pos b2] at h2; exact absurd h2 (by decide)
     ·rw [if_neg b2] at h2 ⊢
      exact ZlU h1 h2
end Go.Proofs.YtmcdjilbkmhfoaaGreat
set_option linter.unusedVariables false
namespace Go.Proofs.YtmcdjilbkmhfoaaGreat
set_option maxRecDepth 10000
open Go.RowKit
@[ext] structure Ze1 where
 place:ByteArray
 at_:Int
 deriving DecidableEq
abbrev ZxJ (x:Ze1):List PV:=[vs x.place,vi x.at_]
@[ext] structure Zai where
 n:Za
 at_:Int
 known:Bool
 place:ByteArray
 ride:Ze
 rides:Bool
 free:Bool
 from_:Ze1
 to_:Ze1
 more:Bool
abbrev Zlk (x:Zai):List PV:=[.sl (x.n.legs.map cLeg),.sl (x.n.off.map cInt),vi x.n.change,vi x.at_,vb x.known,vs x.place,vi x.ride.leg,vi x.ride.day,vb x.rides,vb x.free,vs x.from_.place,vi x.from_.at_,vs x.to_.place,vi x.to_.at_,vb x.more]
set_option maxHeartbeats 16000000
def ZaA (n:Za) (a:Ze1) (b:Ze1):Option Bool:=
 cond (decide (a.place=b.place))
 (some (decide (a.at_≤b.at_)))
 ((ZaU n a.place b.place a.at_).bind fun y1=>
 cond (!decide (y1=(-1)))
 (some (decide (y1≤b.at_)))
 (some false))
instance (n:Za) (a:Ze1) (b:Ze1):CT Tryz.prog (ZaA n a b):=⟨222,[.ag (Zr n),.ag (ZxJ a),.ag (ZxJ b)],[],fun r=>vb r,fun r=>[],fun H=>by replace H:=H0 H; unfold ZaA at H; exact Zh Tryz.func222 rfl Tryz.ntmps222 Tryz.results222 fun Q hQ hQn=>wk3⟩
def Zbe (n:Za) (from1_:ByteArray) (at2_:Int) (to_:ByteArray) (by4_:Int):Option Bool:=
 cond (decide (from1_=to_))
 (some (decide (at2_≤by4_)))
 ((ZaU n from1_ to_ at2_).bind fun y1=>
 cond (!decide (y1=(-1)))
 (some (decide (y1≤by4_)))
 (some false))
instance (n:Za) (from1_:ByteArray) (at2_:Int) (to_:ByteArray) (by4_:Int):CT Tryz.prog (Zbe n from1_ at2_ to_ by4_):=⟨226,[.ag (Zr n),vs from1_,vi at2_,vs to_,vi by4_],[],fun r=>vb r,fun r=>[],fun H=>by replace H:=H0 H; unfold Zbe at H; exact Zh Tryz.func226 rfl Tryz.ntmps226 Tryz.results226 fun Q hQ hQn=>wk3⟩
set_option linter.unusedSimpArgs false
def Zcc (n:Za) (i:Nat) (t:Ze):Zk:=⟨((i+1:Nat):Int),ZM n t,3,⟨#[]⟩,t⟩
def ZeU (n:Za) (i:Nat) (t:Ze):Zk:=⟨((i+1:Nat):Int),Z7 n t,2,⟨#[]⟩,t⟩
def Zdr (n:Za) (i:Nat) (o:Zf):List Zk:=
 (⟨((i+1:Nat):Int),o.at_,1,o.from_,⟨0,0⟩⟩:Zk)::((o.way.take o.gone.toNat).flatMap fun t=>[Zcc n i t,ZeU n i t]) ++
  (if o.state=2 then ((o.way[o.gone.toNat]?).map (Zcc n i)).toList else if o.state=3 then [⟨((i+1:Nat):Int),o.ended,4,o.to_,⟨0,0⟩⟩] else [])
theorem ZoR {n:Za} {a:Int} {i:Nat} {o:Zf} (hg:0≤o.gone):Zdr n i (ZS n a o)=Zdr n i o++Zca n a i o:=by
 unfold ZS Zca
 cases ht:o.way[o.gone.toNat]? with
 | none=>simp
 | some t=>
  simp only
  by_cases hc:o.state=2∧Z7 n t=a
  ·rw [if_pos hc,if_pos hc]
   have hlt:=(List.getElem?_eq_some_iff.1 ht).1
   have hte:o.way[o.gone.toNat]=t:=(List.getElem?_eq_some_iff.1 ht).2
   have htk:o.way.take (o.gone+1).toNat=o.way.take o.gone.toNat++[t]:=by
    rw [show (o.gone+1).toNat=o.gone.toNat+1 by omega,List.take_succ_eq_append_getElem hlt,hte]
   have h3:¬ o.state=3:=by omega
   obtain ⟨h2,he⟩:=hc
   subst he
   unfold arr1
   by_cases hto:ZL n t=o.to_
   ·rw [if_pos hto,if_pos hto]
    unfold Zdr ZeU Zcc
    simp [htk,ht,h2,hto]
   ·rw [if_neg hto,if_neg hto]
    unfold Zdr ZeU Zcc
    simp [htk,ht,h2]
  ·rw [if_neg hc,if_neg hc,List.append_nil]
theorem Zta {n:Za} {a:Int} {i:Nat} {o:Zf}:Zdr n i (ZfS n a o)=Zdr n i o++Zfu n a i o:=by
 unfold ZfS Zfu
 cases ht:o.way[o.gone.toNat]? with
 | none=>simp
 | some t=>
  simp only
  by_cases hc:o.state=1∧ZM n t=a
  ·rw [if_pos hc,if_pos hc]
   obtain ⟨h1,ha⟩:=hc
   subst ha
   unfold Zdr Zcc
   simp [ht,h1]
  ·rw [if_neg hc,if_neg hc,List.append_nil]
def ZbM (a:Zk) (b:Zk):Option Int:=
 (Z9 a.at_ b.at_).bind fun y1=>
 (Z9 a.thing b.thing).bind fun y2=>
 (Z9 a.kind b.kind).bind fun y3=>
 (Z9 a.trip.day b.trip.day).bind fun y4=>
 (Z9 a.trip.leg b.trip.leg).bind fun y5=>
 (ZdP a.place b.place).bind fun y6=>
 (ZdW ([y1,y2,y3,y4,y5,y6])).bind fun y7=>
 some y7
instance (a:Zk) (b:Zk):CT Tryz.prog (ZbM a b):=⟨221,[.ag (ZF a),.ag (ZF b)],[],fun r=>vi r,fun r=>[],fun H=>by replace H:=H0 H; unfold ZbM at H; exact Zh Tryz.func221 rfl Tryz.ntmps221 Tryz.results221 fun Q hQ hQn=>wk3⟩
def Zes (i:Int) (j:Int) (c0_:List Zk):Option Bool:=
 (getI c0_ i).bind fun y1=>
 (getI c0_ j).bind fun y2=>
 (ZbM y1 y2).bind fun y3=>
 some (decide (y3<0))
instance (i:Int) (j:Int) (c0_:List Zk):CT Tryz.prog (Zes i j c0_):=⟨253,[vi i,vi j,.rp [.sl (c0_.map ZF)]],[],fun r=>vb r,fun r=>[],fun H=>by replace H:=H0 H; unfold Zes at H; exact Zh Tryz.func253 rfl Tryz.ntmps253 Tryz.results253 fun Q hQ hQn=>wk3⟩
end Go.Proofs.YtmcdjilbkmhfoaaGreat
namespace Go.Proofs.YtmcdjilbkmhfoaaGreat
set_option maxRecDepth 10000
open Go.RowKit Go.Lib Go.Sort
set_option linter.unusedVariables false
set_option linter.unusedSimpArgs false
set_option maxRecDepth 100000
set_option maxHeartbeats 4000000
instance:Enc Zk where
 cells x:=[I x.thing,I x.at_,I x.kind,.string x.place,I x.trip.leg,I x.trip.day]
 k:=6
 len _:=rfl
 pos:=by decide
 one:=by simp [Value.oneCell',I]
instance:Zic ZF (id:Zk→Zk):=⟨fun x=>rfl,fun x j p h=>by
 match j with
 | 0=>obtain rfl:_=p:=Option.some.inj h
      exact ⟨_,rfl,rfl⟩
 | 1=>obtain rfl:_=p:=Option.some.inj h
      exact ⟨_,rfl,rfl⟩
 | 2=>obtain rfl:_=p:=Option.some.inj h
      exact ⟨_,rfl,rfl⟩
 | 3=>obtain rfl:_=p:=Option.some.inj h
      exact ⟨_,rfl,rfl⟩
 | 4=>obtain rfl:_=p:=Option.some.inj h
      exact ⟨_,rfl,rfl⟩
 | 5=>obtain rfl:_=p:=Option.some.inj h
      exact ⟨_,rfl,rfl⟩
 | j+6=>simp [ZF] at h⟩
instance:Inhabited Zk:=⟨⟨0,0,0,⟨#[]⟩,⟨0,0⟩⟩⟩
abbrev cmpS (a b:ByteArray):Int:=Lib.compareBytes a.data.toList b.data.toList
def scLt (a b:Zk):Prop:=a.at_<b.at_∨(a.at_=b.at_∧(a.thing<b.thing∨(a.thing=b.thing∧(a.kind<b.kind∨(a.kind=b.kind∧(a.trip.day<b.trip.day∨(a.trip.day=b.trip.day∧(a.trip.leg<b.trip.leg∨(a.trip.leg=b.trip.leg∧cmpS a.place b.place<0)))))))))
instance (a b:Zk):Decidable (scLt a b):=by unfold scLt; infer_instance
def scB (a b:Zk):Bool:=decide (scLt a b)
theorem ZkG (a b:Zk):scB a b=true↔scLt a b:=by unfold scB; exact decide_eq_true_iff
theorem ZkH (a b:Zk):scB a b=false↔¬ scLt a b:=by unfold scB; exact decide_eq_false_iff_not
theorem ZnP:SWO scB:=by
 refine ⟨fun x=>(ZkH _ _).2 ?_,fun x y z h1 h2=>(ZkG _ _).2 ?_,fun x y z h1 h2=>(ZkH _ _).2 ?_⟩
 ·have:=Zrw x.place.data.toList
  unfold scLt cmpS
  omega
 ·have h1:=(ZkG _ _).1 h1
  have h2:=(ZkG _ _).1 h2
  have h3:cmpS x.place y.place<0→cmpS y.place z.place<0→cmpS x.place z.place<0:=ZlU
  unfold scLt at *
  generalize cmpS x.place y.place=s1 at *
  generalize cmpS y.place z.place=s2 at *
  generalize cmpS x.place z.place=s3 at *
  omega
 ·have h1:=(ZkH _ _).1 h1
  have h2:=(ZkH _ _).1 h2
  have e1:cmpS x.place y.place=- cmpS y.place x.place:=ZjZ _ _
  have e2:cmpS y.place z.place=- cmpS z.place y.place:=ZjZ _ _
  have e3:cmpS x.place z.place<0→¬ cmpS x.place y.place<0→¬ cmpS y.place z.place<0→False:=fun h a1 a2=>by
   rcases Int.lt_or_eq_of_le (show 0≤cmpS x.place y.place by omega) with g | g
   ·rcases Int.lt_or_eq_of_le (show 0≤cmpS y.place z.place by omega) with g2 | g2
    ·have:cmpS z.place x.place<0:=ZlU (show cmpS z.place y.place<0 by omega) (show cmpS y.place x.place<0 by omega)
     have e4:cmpS x.place z.place=- cmpS z.place x.place:=ZjZ _ _
     omega
    ·have:y.place.data.toList=z.place.data.toList:=ZlV g2.symm
     unfold cmpS at g h
     rw [← this] at h
     omega
   ·have:x.place.data.toList=y.place.data.toList:=ZlV g.symm
    unfold cmpS at h a2
    rw [this] at h
    exact a2 h
  have e5:¬ (cmpS x.place z.place<0∧0≤cmpS x.place y.place∧0≤cmpS y.place z.place):=fun ⟨a,b,c⟩=>e3 a (by omega) (by omega)
  clear e1 e2 e3
  unfold scLt at *
  generalize cmpS x.place y.place=s1 at *
  generalize cmpS y.place z.place=s2 at *
  generalize cmpS x.place z.place=s3 at *
  omega
theorem Zx9 (a b c d e f:Int):ZdW [a,b,c,d,e,f]=some (if a≠0 then a else if b≠0 then b else if c≠0 then c else if d≠0 then d else if e≠0 then e else f):=by
 have w:∀ i:Nat,i<100→w64 ((i:Int)+1)=((i+1:Nat):Int):=fun i h=>by rw [Zo (by omega)]; omega
 have step:∀ (l:List Int) (i:Nat) (x:Int) (N:Nat),i<100→l[i]?=some x→Zj (ZK l) (N+1) (i:Int)=if x≠0 then some (.inr x) else Zj (ZK l) N ((i+1:Nat):Int):=fun l i x N hi hx=>by
  have hlt:=(List.getElem?_eq_some_iff.1 hx).1
  have hg:getI l (i:Int)=some x:=by rw [Zn]; exact hx
  have hb:ZK l (i:Int)=some (if x≠0 then .inr (.inr x) else .inl ((i+1:Nat):Int)):=by
   unfold ZK
   rw [decide_eq_true (show (i:Int)<(l.length:Int) by omega),cond_true,hg,Option.bind_some,w i hi]
   by_cases h0:x=0
   ·rw [decide_eq_true h0,if_neg (by simpa using h0)]; rfl
   ·rw [decide_eq_false h0,if_pos h0]; rfl
  rw [show Zj (ZK l) (N+1) (i:Int)=(ZK l (i:Int)).bind (ZY (Zj (ZK l) N) some) from rfl,hb]
  by_cases h0:x=0
  ·rw [if_neg (by simpa using h0),if_neg (by simpa using h0)]; rfl
  ·rw [if_pos h0,if_pos h0]; rfl
 have fin:∀ (l:List Int) (N:Nat),Zj (ZK l) (N+1) (l.length:Int)=some (.inl ()):=fun l N=>by
  have hb:ZK l (l.length:Int)=some (.inr (.inl ())):=by unfold ZK; simp
  rw [show Zj (ZK l) (N+1) (l.length:Int)=(ZK l (l.length:Int)).bind (ZY (Zj (ZK l) N) some) from rfl,hb]; rfl
 obtain ⟨k,hk⟩:∃ k,NN=k+1+1+1+1+1+1+1:=⟨NN-7,by unfold NN; omega⟩
 have key:Zj (ZK [a,b,c,d,e,f]) NN ((0:Nat):Int)=if a≠0 then some (.inr a) else if b≠0 then some (.inr b) else if c≠0 then some (.inr c) else if d≠0 then some (.inr d) else if e≠0 then some (.inr e) else if f≠0 then some (.inr f) else some (.inl ()):=by
  rw [hk,step _ 0 a _ (by omega) rfl,step _ 1 b _ (by omega) rfl,step _ 2 c _ (by omega) rfl,step _ 3 d _ (by omega) rfl,step _ 4 e _ (by omega) rfl,step _ 5 f _ (by omega) rfl,show ((5+1:Nat):Int)=(([a,b,c,d,e,f]:List Int).length:Int) from rfl,fin [a,b,c,d,e,f] k]
 unfold ZdW
 rw [show (0:Int)=((0:Nat):Int) from rfl,key]
 by_cases ha:a=0
 ·by_cases hb:b=0
  ·by_cases hc:c=0
   ·by_cases hd:d=0
    ·by_cases he:e=0
     ·by_cases hf:f=0
      ·simp [ha,hb,hc,hd,he,hf,ZY]
      ·simp [ha,hb,hc,hd,he,hf,ZY]
     ·simp [ha,hb,hc,hd,he,ZY]
    ·simp [ha,hb,hc,hd,ZY]
   ·simp [ha,hb,hc,ZY]
  ·simp [ha,hb,ZY]
 ·simp [ha,ZY]
theorem cmp3 (a b:Int):(a<b∧cmpI a b=-1)∨(a=b∧cmpI a b=0)∨(b<a∧cmpI a b=1):=by
 unfold cmpI
 rcases Int.lt_trichotomy a b with h | h | h
 ·exact .inl ⟨h,if_pos h⟩
 ·exact .inr (.inl ⟨h,by rw [if_neg (by omega),if_neg (by omega)]⟩)
 ·exact .inr (.inr ⟨h,by rw [if_neg (by omega),if_pos h]⟩)
theorem ZhA (a b:Zk):∃ v,ZbM a b=some v∧(v<0↔scLt a b):=by
 unfold ZbM ZdP
 simp only [Zve,Option.bind_some,Zx9]
 refine ⟨_,rfl,?_⟩
 unfold scLt cmpS
 generalize Lib.compareBytes a.place.data.toList b.place.data.toList=s
 rcases cmp3 a.at_ b.at_ with ⟨h1,e1⟩ | ⟨h1,e1⟩ | ⟨h1,e1⟩
 ·rw [e1,if_pos (by decide)]; omega
 ·rw [e1,if_neg (by decide)]
  rcases cmp3 a.thing b.thing with ⟨h2,e2⟩ | ⟨h2,e2⟩ | ⟨h2,e2⟩
  ·rw [e2,if_pos (by decide)]; omega
  ·rw [e2,if_neg (by decide)]
   rcases cmp3 a.kind b.kind with ⟨h3,e3⟩ | ⟨h3,e3⟩ | ⟨h3,e3⟩
   ·rw [e3,if_pos (by decide)]; omega
   ·rw [e3,if_neg (by decide)]
    rcases cmp3 a.trip.day b.trip.day with ⟨h4,e4⟩ | ⟨h4,e4⟩ | ⟨h4,e4⟩
    ·rw [e4,if_pos (by decide)]; omega
    ·rw [e4,if_neg (by decide)]
     rcases cmp3 a.trip.leg b.trip.leg with ⟨h5,e5⟩ | ⟨h5,e5⟩ | ⟨h5,e5⟩
     ·rw [e5,if_pos (by decide)]; omega
     ·rw [e5,if_neg (by decide)]; omega
     ·rw [e5,if_pos (by decide)]; omega
    ·rw [e4,if_pos (by decide)]; omega
   ·rw [e3,if_pos (by decide)]; omega
  ·rw [e2,if_pos (by decide)]; omega
 ·rw [e1,if_pos (by decide)]; omega
theorem Zwp {g c n Bx:Nat} {w0:World} {O:Nat→Prop} (hx:w0.cell? ⟨Bx,0,none⟩=some (.slice (some ⟨g,0,none⟩) n c)) (hBx:Bx<w0.heap.size) (hne:Bx≠g) (hnc:n≤c) (hm:c≤maxLen) (ht:Tab w0 O) (hO:O g):
 ZhW 253 #[.pointer (some ⟨Bx,0,none⟩)] (Enc.cells (α:=Zk)) 6 scB g 130 (c*6) n w0:=by
 intro d W hS hd i j hi hj
 have hn:d.toList.length=n:=by rw [Array.length_toList,hd]
 have gi:getI d.toList (i:Int)=some d[i]!:=by rw [Zn,Array.getElem?_toList,getElem!_pos d i (by omega)]; exact Array.getElem?_eq_getElem _
 have gj:getI d.toList (j:Int)=some d[j]!:=by rw [Zn,Array.getElem?_toList,getElem!_pos d j (by omega)]; exact Array.getElem?_eq_getElem _
 obtain ⟨v,hv,hvb⟩:=ZhA d[i]! d[j]!
 have H:Zes (i:Int) (j:Int) d.toList=some (scB d[i]! d[j]!):=by
  unfold Zes
  rw [gi,Option.bind_some,gj,Option.bind_some,hv,Option.bind_some]
  unfold scB
  by_cases hb:scLt d[i]! d[j]!
  ·rw [decide_eq_true hb,decide_eq_true (hvb.2 hb)]
  ·rw [decide_eq_false hb,decide_eq_false fun h=>hb (hvb.1 h)]
 have hC:=CT.ok (P:=Tryz.prog) H
 simp only [CT.f,CT.args,CT.m0,CT.res,CT.mem] at hC
 have hcell:W.cell? ⟨Bx,0,none⟩=some (.slice (some ⟨g,0,none⟩) n c):=(hS.oth hBx hne).trans hx
 have hrd:Rd W W.heap.size (some ⟨g,0,none⟩) (d.toList.map id):=by
  have:=(Zp5 (B:=g) hS (Nat.le_refl _) (by omega) hm).rd
  rw [List.map_id]
  exact this
 have hrs:=ZoM (c:=ZF) (id:Zk→Zk) hrd (n:=c) (by omega) hm
 rw [hn] at hrs
 refine (Zev.valT hC (w:=W) (ZnQ ht hS.up fun b _ h=>h ▸ hO) rfl fun idx p hp=>?_).mono ?_
 ·match idx with
  | 0=>obtain rfl:_=p:=Option.some.inj hp
       exact ⟨_,rfl,Zh8 _ rfl⟩
  | 1=>obtain rfl:_=p:=Option.some.inj hp
       exact ⟨_,rfl,Zh8 _ rfl⟩
  | 2=>obtain rfl:_=p:=Option.some.inj hp
       refine ⟨_,rfl,.c (.rp _ Bx 0 (fun _=>.slice (some ⟨g,0,none⟩) n c) (Nat.lt_of_lt_of_le hBx hS.up.size) (fun j p hp=>?_) (fun j p hp=>rfl) fun j p hp=>?_)⟩
       ·match j with
        | 0=>exact hcell
        | j+1=>simp at hp
       ·match j with
        | 0=>obtain rfl:_=p:=Option.some.inj hp
             exact hrs
        | j+1=>simp at hp
  | idx+3=>simp at hp
 ·rintro e w' ⟨rfl,hu⟩
  exact ⟨rfl,hu⟩
noncomputable def scT:TypeInfo:=(Tryz.prog.info? 39).get (by kernel_rfl)
noncomputable def scE:TypeInfo:=(Tryz.prog.info? 130).get (by kernel_rfl)
theorem scK (n:Nat) (h2:2≤n):Lib.swapperK n scE 25=9:=by
 have a:scE.hasPointers=true:=by kernel_rfl
 have b:scE.bytes=56:=by kernel_rfl
 have c:(n == 0)=false:=by simp; omega
 have d:(n == 1)=false:=by simp; omega
 simp [Lib.swapperK,a,b,c,d]
theorem Zu1 {B Bx:Nat} {v:Value} {xs:List Zk} {w:World} {O:Nat→Prop} (ho:Own w B 130 v xs) (hx:w.heap[Bx]?=some (.cells #[v] 39 (0,0))) (hn:xs.length≤1048576) (ht:Tab w O) (hO:∀ b,B≤b→O b):
 Calls Tryz.prog 200 #[.iface 39 v,.func (.func 253) #[] #[.pointer (some ⟨Bx,0,none⟩)]] w fun e w'=>e=.returned (.tuple #[])∧∃ ys,ys.Perm xs∧ys.Pairwise (fun a b=>scB b a=false)∧Own w' B 130 v ys∧UpO (fun b=>B≤b∧b≠Bx) w w':=by
 by_cases h2:2≤xs.length
 case neg=>
  obtain ⟨A,c,rfl,_,_⟩:=ho.form
  have hR:=Tryz.laysGt8
  have key : ∀ f, Tryz.prog.funcs.findIdx? (·.name == "internal/reflectlite" ++ ".Swapper$" ++ toString (Lib.swapperK xs.length scE 25)) = some f → Calls Tryz.prog 200 #[.iface 39 (.slice A xs.length c), .func (.func 253) #[] #[.pointer (some ⟨Bx, 0, none⟩)]] w fun e w' => e = .returned (.tuple #[]) ∧ ∃ os, w' = grow w os := fun f hf =>
   Any.sort_SliceStable_tiny Tryz.laysGt8 39 130 scT scE (by kernel_rfl) (by kernel_rfl) (by kernel_rfl) (by kernel_rfl) 25 (fun _=>by kernel_rfl) A xs.length c (by omega) f hf _ _ _ w
  have key2 : ∃ f, Tryz.prog.funcs.findIdx? (·.name == "internal/reflectlite" ++ ".Swapper$" ++ toString (Lib.swapperK xs.length scE 25)) = some f := by
   rcases Nat.lt_or_ge 0 xs.length with h | h
   ·rw [show xs.length=1 by omega]
    exact ⟨260,by kernel_rfl⟩
   ·rw [show xs.length=0 by omega]
    exact ⟨259,by kernel_rfl⟩
  obtain ⟨f,hf⟩:=key2
  refine (key f hf).mono ?_
  rintro e w' ⟨rfl,os,rfl⟩
  have hu:=Zr1 w os
  refine ⟨rfl,xs,List.Perm.refl _,?_,ho.up hu,⟨hu.os,hu.tape,hu.output,hu.size,fun b hb _=>hu.block b hb⟩⟩
  match xs,h2 with
  | [],_=>exact .nil
  | [x],_=>simp
  | x::y::l,h2=>simp at h2
 case pos=>
  obtain ⟨g,c,rfl,hB,hnc,hcm,hS⟩:=Zvv ho (by omega)
  have hrow:=hS.row
  have hne:Bx≠g:=by
   rintro rfl
   obtain ⟨cells,h1,_⟩:=hrow
   rw [hx] at h1
   simp at h1
  have hBx:Bx<w.heap.size:=(Array.getElem?_eq_some_iff.1 hx).1
  have hcell:w.cell? ⟨Bx,0,none⟩=some (.slice (some ⟨g,0,none⟩) xs.length c):=by rw [cell_of_row w Bx 0 _ _ (0,0) hx]; rfl
  have hlen:xs.length<1152921504606846976:=by omega
  have hB':sliceBound Tryz.prog 130 scE 25 (some ⟨g,0,none⟩) xs.length c=#[.slice (some ⟨g,0,none⟩) xs.length c,typeHandle Tryz.prog 130]:=by
   unfold sliceBound; rw [if_neg (swapperK_gt _ _ _ h2)]
  have hsw:SwapSwapsK Tryz.prog 267 #[.slice (some ⟨g,0,none⟩) xs.length c,typeHandle Tryz.prog 130] (Enc.cells (α:=Zk)) 6 g 0 xs.length:=
   swapSwapsK_of_literal false 267 (fun args W=>run_callFunc_extern Tryz.func267 (by kernel_rfl) (by kernel_rfl) (by kernel_rfl) (e:=Extern.ReflectliteSwapper.swap false) (by kernel_rfl) args W) 130 scE (by kernel_rfl) (Enc.cells (α:=Zk)) 6 (fun _=>rfl) (by kernel_rfl) (fun _=>by kernel_rfl) Enc.one g 0 xs.length c
  have hless:=Zwp (n:=xs.length) hcell hBx hne hnc hcm ht (hO g hB)
  refine Any.sort_SliceStable_of_stable Tryz.laysGt8 39 130 scT scE (by kernel_rfl) (by kernel_rfl) (by kernel_rfl) (by kernel_rfl) 25 (fun _=>by kernel_rfl) (some ⟨g,0,none⟩) xs.length c (by omega) 267 (by rw [scK _ h2]; kernel_rfl) (.func 253) #[] #[.pointer (some ⟨Bx,0,none⟩)] w (fun w'=>∃ ys,ys.Perm xs∧ys.Pairwise (fun a b=>scB b a=false)∧Own w' B 130 (.slice (some ⟨g,0,none⟩) xs.length c) ys∧UpO (fun b=>B≤b∧b≠Bx) w w') ?_
  rw [hB']
  have hu:Up w (stableWorld Tryz.prog Tryz.laysGt8_ren 39 (some ⟨g,0,none⟩) xs.length c w):=by unfold stableWorld; exact Up.al _ (Up.al _ (Up.rfl' w))
  generalize stableWorld Tryz.prog Tryz.laysGt8_ren 39 (some ⟨g,0,none⟩) xs.length c w=w1 at hu ⊢
  have hS1:=hS.more hu
  have hst:=Zp2 (enc:=Enc.cells (α:=Zk)) (k:=6) (fun _=>rfl) 253 #[.pointer (some ⟨Bx,0,none⟩)] 267 #[.slice (some ⟨g,0,none⟩) xs.length c,typeHandle Tryz.prog 130] xs.length hlen hsw ZnP (enters_of Tryz.func253 (by kernel_rfl) rfl) (d:=xs.toArray) (by simp) hS1.self (hless.on hS1)
  refine hst.mono ?_
  rintro e w' ⟨rfl,e,hE1,hE2,hE3⟩
  have hE:=hS1.trans hE1
  have hsz:e.size=xs.length:=by rw [hE2.1]; simp
  have hown:=Zp5 (B:=B) (c:=c) hE hB (by omega) hcm
  rw [hsz] at hown
  refine ⟨rfl,e.toList,?_,?_,hown,⟨hE.up.os,hE.up.tape,hE.up.output,hE.up.size,fun b hb hn=>hE.up.block b hb fun h=>hn ⟨h ▸ hB,fun h'=>hne (h' ▸ h.symm ▸ rfl)⟩⟩⟩
  ·have hp:=hE2.2.2
   rw [← hsz] at hp
   rw [Array.extract_size] at hp
   rw [hsz] at hp
   have h3:xs.toArray.extract 0 xs.length=xs.toArray:=by simp
   rw [h3] at hp
   simpa using hp
  ·rw [List.pairwise_iff_getElem]
   intro i j hi hj hij
   have:=hE3 i j (by omega) hij (by rw [Array.length_toList] at hj; omega)
   rw [getElem!_pos e j (by rw [Array.length_toList] at hj; exact hj),getElem!_pos e i (by rw [Array.length_toList] at hi; exact hi)] at this
   simpa using this
def okS1 (n:Za) (s:Zk):Bool:=(ZB n s).getD false
def Zg9 (n:Za) (l:List Zk):List Zk:=(l.take 200).filter (okS1 n)
def ddV (ys:List Zk) (k:Nat):List Zk:=(List.range k).flatMap fun i=>match ys[i]? with
 | some y=>if i=0∨¬ ys[i-1]?=some y then [y] else []
 | none=>[]
theorem Zv7:ElT Tryz.prog 39 130 (Enc.k Zk) 56:=ElT.mk' (z:=.agg #[I 0,I 0,I 0,.string ⟨#[]⟩,I 0,I 0]) Tryz.underlying39 (by kernel_rfl) rfl
section
variable {n:Za} (hf:Z0 n) {w:World} {O:Nat→Prop} (ht:Tab w O) {v0 v1:Value} (h0:RepC w (SW w) (.sl (n.legs.map cLeg)) v0) (h1:RepC w (SW w) (.sl (n.off.map cInt)) v1)
include hf ht h0 h1
theorem Zup {W:World} (hu:Up w W) (s:Zk):
 Calls Tryz.prog 140 #[.agg #[v0,v1,I n.change],.agg #[I s.thing,I s.at_,I s.kind,.string s.place,I s.trip.leg,I s.trip.day]] W fun e w'=>e=.returned (.bool (okS1 n s))∧Up W w':=by
 have o0:=h0.one (by simp) (by simp)
 have o1:=h1.one (by simp) (by simp)
 have hm:Zbd n s=some (okS1 n s):=by rw [Zkn hf]; obtain ⟨b,hb⟩:=ZgZ hf s; unfold okS1; rw [hb]; rfl
 have hC:=CT.ok (P:=Tryz.prog) hm
 simp only [CT.f,CT.args,CT.m0,CT.res,CT.mem] at hC
 refine Zev.valT hC (ZnQ ht (O':=fun _=>False) ⟨hu.os,hu.tape,hu.output,hu.size,fun b hb _=>hu.block b hb⟩ fun b _ h=>h.elim) rfl fun i p hp=>?_
 match i with
 | 0=>
  obtain rfl:_=p:=Option.some.inj hp
  refine ⟨_,rfl,.ag _ _ rfl (fun j x hx=>?_) fun j p x hp hx=>?_⟩
  ·match j with
   | 0=>obtain rfl:_=x:=Option.some.inj hx
        exact o0
   | 1=>obtain rfl:_=x:=Option.some.inj hx
        exact o1
   | 2=>obtain rfl:_=x:=Option.some.inj hx
        rfl
   | j+3=>simp at hx
  ·match j with
   | 0=>obtain rfl:_=x:=Option.some.inj hx
        obtain rfl:_=p:=Option.some.inj hp
        exact .c (Zht h0 hu)
   | 1=>obtain rfl:_=x:=Option.some.inj hx
        obtain rfl:_=p:=Option.some.inj hp
        exact .c (Zht h1 hu)
   | 2=>obtain rfl:_=x:=Option.some.inj hx
        obtain rfl:_=p:=Option.some.inj hp
        exact Zh8 _ rfl
   | j+3=>simp at hx
 | 1=>
  obtain rfl:_=p:=Option.some.inj hp
  refine ⟨_,rfl,.ag _ _ rfl (fun j x hx=>?_) fun j p x hp hx=>?_⟩
  ·match j with
   | 0=>obtain rfl:_=x:=Option.some.inj hx
        rfl
   | 1=>obtain rfl:_=x:=Option.some.inj hx
        rfl
   | 2=>obtain rfl:_=x:=Option.some.inj hx
        rfl
   | 3=>obtain rfl:_=x:=Option.some.inj hx
        rfl
   | 4=>obtain rfl:_=x:=Option.some.inj hx
        rfl
   | 5=>obtain rfl:_=x:=Option.some.inj hx
        rfl
   | j+6=>simp at hx
  ·match j with
   | 0=>obtain rfl:_=x:=Option.some.inj hx
        obtain rfl:_=p:=Option.some.inj hp
        exact Zh8 _ rfl
   | 1=>obtain rfl:_=x:=Option.some.inj hx
        obtain rfl:_=p:=Option.some.inj hp
        exact Zh8 _ rfl
   | 2=>obtain rfl:_=x:=Option.some.inj hx
        obtain rfl:_=p:=Option.some.inj hp
        exact Zh8 _ rfl
   | 3=>obtain rfl:_=x:=Option.some.inj hx
        obtain rfl:_=p:=Option.some.inj hp
        exact Zh8 _ rfl
   | 4=>obtain rfl:_=x:=Option.some.inj hx
        obtain rfl:_=p:=Option.some.inj hp
        exact Zh8 _ rfl
   | 5=>obtain rfl:_=x:=Option.some.inj hx
        obtain rfl:_=p:=Option.some.inj hp
        exact Zh8 _ rfl
   | j+6=>simp at hx
 | i+2=>simp at hp
end
end Go.Proofs.YtmcdjilbkmhfoaaGreat
namespace Go.Proofs.YtmcdjilbkmhfoaaGreat
set_option maxRecDepth 10000
open Go.RowKit
def Ups (w:World):Type:={w':World // Up w w'}
instance (w:World):Nonempty (Ups w):=⟨⟨w,Up.rfl' w⟩⟩
def Ups.val {w:World} (x:Ups w):World:=x.1
theorem Ups.up {w:World} (x:Ups w):Up w x.val:=x.2
theorem Ups.cell {w:World} {b o:Nat} {v:Value} (h:w.cell? ⟨b,o,none⟩=some v):∀ x:Ups w,x.val.cell? ⟨b,o,none⟩=some v:=
 fun x=>(x.2.cell (p:=⟨b,o,none⟩) (World.block_lt_of_cell? w ⟨b,o,none⟩ h)).trans h
theorem ZcG {w w':World} {b o:Nat} {v:Value} (h:w.cell? ⟨b,o,none⟩=some v) (hu:Up w w'):w'.cell? ⟨b,o,none⟩=some v:=Ups.cell h ⟨w',hu⟩
theorem Ups.rd {α:Type} [Enc α] {w:World} {A:Option Addr} {xs:List α} (h:Rd w w.heap.size A xs) (x:Ups w):Rd x.val x.val.heap.size A xs:=h.up x.2
theorem Ups.call {P:Program} {f:FuncId} {args:Array Value} {w:World} {x:Ups w} {v:Value} (h:Calls P f args x.val fun e w'=>e=.returned v∧Up x.val w'):
 Calls P f args x.val fun e w''=>e=.returned v∧∃ y:Ups w,w''=y.val:=
 h.mono fun _ v2 ⟨he,hu⟩=>⟨he,⟨v2,Up.step hu x.2⟩,rfl⟩
theorem Zhx {P:Program} {id:Nat} {Q:Exit→Act→World→Prop} {a:Act} {w:World} {l:List Oper} (hm:P.follows .mixedOrders=true) (hB:Region.lexB .any l.toArray=true)
 (h:wpQuiet P l.toArray (fun w'=>∃ x:Ups w,w'=x.val) (fun a'=>∀ w',Up w w'→Q .normal a' w') l a):(Code.region id l.toArray true).wp P Q a w:=by
 refine wp_region_quiet (C:=fun w'=>∃ x:Ups w,w'=x.val) hm hB ⟨⟨_,Up.dr1 (Up.rfl' w)⟩,rfl⟩ ?_
 have e:(fun a'=>∀ w',(∃ x:Ups w,w'=x.val)→Q .normal a' w')=(fun a'=>∀ w',Up w w'→Q .normal a' w'):=by
  funext a'
  refine propext ⟨fun h w' hu=>h w' ⟨⟨w',hu⟩,rfl⟩,fun h w' hx=>?_⟩
  obtain ⟨x,rfl⟩:=hx
  exact h _ x.2
 rw [e]
 simpa using h
end Go.Proofs.YtmcdjilbkmhfoaaGreat
namespace Go.Proofs.YtmcdjilbkmhfoaaGreat
set_option maxRecDepth 10000
open Go.RowKit Go.Lib Go.Sort
set_option linter.unusedVariables false
set_option linter.unusedSimpArgs false
set_option maxRecDepth 100000
set_option maxHeartbeats 4000000
theorem Zsy {w:World} {B Bx:Nat} {v v':Value} {xs:List Zk} (h:Own w B 130 v xs) (hx:w.heap[Bx]?=some (.cells #[v'] 39 (0,0))):v.ownBlock≠some Bx:=by
 rcases h.2 with ⟨hv,_⟩ | ⟨g,cap,cur,hv,hB,hg,_⟩
 ·rw [hv]; simp [Value.ownBlock]
 ·rw [hv]
  intro e
  have:g=Bx:=by simpa [Value.ownBlock] using e
  subst this
  rw [hg] at hx
  simp at hx
theorem ZrJ (ys:List Zk) (j:Nat) (hj:j<ys.length):ddV ys (j+1)=ddV ys j++(if j=0∨¬ ys[j-1]?=some ys[j] then [ys[j]] else []):=by
 unfold ddV
 rw [List.range_succ,List.flatMap_append]
 simp only [List.flatMap_cons,List.flatMap_nil,List.append_nil,List.getElem?_eq_getElem hj]
theorem Zzm {p x:Zk} (h:¬ p=x):¬ p.thing=x.thing∨(p.thing=x.thing∧¬ p.at_=x.at_)∨(p.thing=x.thing∧p.at_=x.at_∧¬ p.kind=x.kind)∨(p.thing=x.thing∧p.at_=x.at_∧p.kind=x.kind∧¬ p.place.toList=x.place.toList)∨
 (p.thing=x.thing∧p.at_=x.at_∧p.kind=x.kind∧p.place=x.place∧¬ p.trip.leg=x.trip.leg)∨(p.thing=x.thing∧p.at_=x.at_∧p.kind=x.kind∧p.place=x.place∧p.trip.leg=x.trip.leg∧¬ p.trip.day=x.trip.day):=by
 by_cases h1:p.thing=x.thing
 ·by_cases h2:p.at_=x.at_
  ·by_cases h3:p.kind=x.kind
   ·by_cases h4:p.place=x.place
    ·by_cases h5:p.trip.leg=x.trip.leg
     ·by_cases h6:p.trip.day=x.trip.day
      ·refine absurd ?_ h
       obtain ⟨a,b,c,d,⟨e,f⟩⟩:=p
       obtain ⟨a',b',c',d',⟨e',f'⟩⟩:=x
       simp only at h1 h2 h3 h4 h5 h6
       subst h1 h2 h3 h4 h5 h6
       rfl
      ·exact .inr (.inr (.inr (.inr (.inr ⟨h1,h2,h3,h4,h5,h6⟩))))
     ·exact .inr (.inr (.inr (.inr (.inl ⟨h1,h2,h3,h4,h5⟩))))
    ·exact .inr (.inr (.inr (.inl ⟨h1,h2,h3,fun e=>h4 (by rw [← baL]; exact e)⟩)))
   ·exact .inr (.inr (.inl ⟨h1,h2,h3⟩))
  ·exact .inr (.inl ⟨h1,h2⟩)
 ·exact .inl h1
section
variable {n:Za} (hf:Z0 n) {w:World} {O:Nat→Prop} (ht:Tab w O) {v0 v1:Value} (h0:RepC w (SW w) (.sl (n.legs.map cLeg)) v0) (h1:RepC w (SW w) (.sl (n.off.map cInt)) v1)
 {l:List Zk} (hl:l.length≤1048576) {A:Option Addr} {ln:Nat} (hln:l.length≤ln) (hlm:l≠[]→ln≤maxLen) (hlr:Rd w w.heap.size A l)
include hf ht h0 h1 hl hln hlr
theorem Zxj:Calls Tryz.prog 220 #[.agg #[v0,v1,I n.change],.slice A l.length ln] w fun e w'=>∃ v ys,e=.returned v∧ys.Perm (Zg9 n l)∧ys.Pairwise (fun a b=>scB b a=false)∧Own w' w.heap.size 130 v (ddV ys ys.length)∧Up w w':=by
 have hA:=fun (W:World) (hu:Up w W) (s:Zk)=>Zup hf ht h0 h1 hu s
 have HA:Hid _:=hA
 have HL:Hid (Rd w w.heap.size A l):=hlr
 have HT:Hid (Tab w O):=ht
 have hmin:(if (200:Int)<(l.length:Int) then (200:Int) else (l.length:Int))=((min l.length 200:Nat):Int):=by split <;> omega
 clear hA hf ht h0 h1 hlr
 go_enter Tryz.func220,Tryz.ntmps220
 go_wp2_with fail
 have e16:(min (l.length:Int) 200).toNat=min l.length 200:=by omega
 have e17:max (min (l.length:Int) 200) 0=((min l.length 200:Nat):Int):=by omega
 rw [e16,e17]
 clear e16 e17
 have hm1:min l.length 200≤l.length:=by omega
 have hm2:min l.length 200≤200:=by omega
 have hmt:l.take 200=l.take (min l.length 200):=by
  rcases Nat.le_total l.length 200 with h | h
  ·rw [Nat.min_eq_left h,List.take_of_length_le h,List.take_length]
  ·rw [Nat.min_eq_right h]
 have HMT:=Lib.hid hmt
 clear hmt
 generalize hmm:min l.length 200=m at hm1 hm2 HMT ⊢
 clear hmm
 go_loopw [18] (fun vi wr=>∃ (i:Nat) (v:Value),vi=.int .i64 i∧i≤m∧Own wr (w.heap.size+1) 130 v ((l.take i).filter (okS1 n))∧wr.heap[w.heap.size+2]?=some (.cells #[v] 39 (0,0))∧Up (w.alloc (.cells #[v0,v1,I n.change] 35)) wr) (fun vi _=>m-(intOf vi).toNat)
 case atStart=>
  refine ⟨0,.slice (some ⟨w.heap.size+1,0,none⟩) 0 0,by go_num,by omega,?_,?_,?_⟩
  ·refine ⟨by rw [ZeL],.inr ⟨w.heap.size+1,0,#[],rfl,Nat.le_refl _,?_,by simp,by unfold maxLen; omega,by simp,by simp [flat]⟩⟩
   rw [heap_alloc_old _ _ (by simp)]
   have:=heap_alloc_new (w.alloc (.cells #[v0,v1,I n.change] 35)) (.cells #[] 130)
   simpa using this
  ·have:=heap_alloc_new ((w.alloc (.cells #[v0,v1,I n.change] 35)).alloc (.cells #[] 130)) (.cells #[.slice (some ⟨w.heap.size+1,0,none⟩) 0 0] 39)
   simpa using this
  ·exact Up.al _ (Up.al _ (Up.rfl' _))
 case round=>
  obtain ⟨i,v,rfl,hi,hv,hx,hwr⟩:=hrel
  obtain ⟨A3,c3,rfl,hc3,hm3⟩:=hv.form
  have hvl:((l.take i).filter (okS1 n)).length≤200:=Nat.le_trans (List.length_filter_le _ _) (by rw [List.length_take]; omega)
  have hcx:wr.cell? ⟨w.heap.size+2,0,none⟩=some (.slice A3 ((l.take i).filter (okS1 n)).length c3):=by rw [cell_of_row wr _ 0 _ _ (0,0) hx]; rfl
  have hz:w.heap.size+2<wr.heap.size:=(Array.getElem?_eq_some_iff.1 hx).1
  have HV:=Lib.hid hv
  have HX:=Lib.hid hx
  have HWR:=Lib.hid hwr
  have e0:wr.cell? ⟨w.heap.size,0,none⟩=some v0:=ZbE (by simp) (by simp) hwr
  have e1:wr.cell? ⟨w.heap.size,1,none⟩=some v1:=ZbE (by simp) (by simp) hwr
  have e2:wr.cell? ⟨w.heap.size,2,none⟩=some (I n.change):=ZbE (by simp) (by simp) hwr
  clear hv hx hwr hc3 hm3
  by_cases hlt:i<m
  ·have hil:i<l.length:=by omega
   obtain ⟨b,off,rfl,hbb,hcc⟩:=(HL.out.up (Up.step HWR.out (Up.al _ (Up.rfl' w)))).at_ (List.getElem?_eq_getElem hil)
   have d0:wr.cell? ⟨b,off+i*6,none⟩=some (I l[i].thing):=hcc 0 _ rfl
   have d1:wr.cell? ⟨b,off+i*6+1,none⟩=some (I l[i].at_):=hcc 1 _ rfl
   have d2:wr.cell? ⟨b,off+i*6+2,none⟩=some (I l[i].kind):=hcc 2 _ rfl
   have d3:wr.cell? ⟨b,off+i*6+3,none⟩=some (.string l[i].place):=hcc 3 _ rfl
   have d4:wr.cell? ⟨b,off+i*6+4,none⟩=some (I l[i].trip.leg):=hcc 4 _ rfl
   have d5:wr.cell? ⟨b,off+i*6+5,none⟩=some (I l[i].trip.day):=hcc 5 _ rfl
   clear hcc
   have hz0:w.heap.size<wr.heap.size:=by omega
   have htk:(l.take (i+1)).filter (okS1 n)=(l.take i).filter (okS1 n)++(if okS1 n l[i]=true then [l[i]] else []):=by
    rw [List.take_succ_eq_append_getElem hil,List.filter_append]
    by_cases h:okS1 n l[i]=true
    ·simp [h]
    ·simp [h]
   have HTK:=Lib.hid htk
   clear htk
   generalize l[i]=x at d0 d1 d2 d3 d4 d5 HTK ⊢
   cases hok:okS1 n x with
   | false=>
    have HOK:=Lib.hid hok
    clear hok
    go_wp2_with (go_at_call 140; refine (HA.out _ (by (repeat (first | exact Up.rfl' _ | (refine Up.al _ ?_) | (refine Up.dr _ ?_) | (refine Up.dr1 ?_) | (refine Up.sc ?_ (by first | exact Nat.le_refl _ | (simp; done) | omega) _) | (refine Up.step (by assumption) ?_)))) x).mono ?_; rintro e w5 ⟨rfl,hu5⟩; rw [HOK.out]; refine Hid.out ?_)
    have hx5:w5.heap[w.heap.size+2]?=some (.cells #[.slice A3 ((l.take i).filter (okS1 n)).length c3] 39 (0,0)):=(hu5.block _ (by simp; omega)).trans (((Up.al _ (Up.rfl' wr)).block _ hz).trans HX.out)
    have hwr5:Up (w.alloc (.cells #[v0,v1,I n.change] 35)) w5:=Up.step hu5 (Up.al _ HWR.out)
    have hv5:=HV.out.up (Up.step hu5 (Up.al _ (Up.rfl' wr)))
    have HX5:=Lib.hid hx5
    have HW5:=Lib.hid hwr5
    have HV5:=Lib.hid hv5
    clear hx5 hwr5 hv5 hu5
    refine Lib.hid ?_
    go_wp2
    refine ⟨⟨i+1,_,by go_num,by omega,?_,HX5.out,HW5.out⟩,by simp [intOf]; omega⟩
    rw [HTK.out,HOK.out,if_neg (by simp),List.append_nil]
    exact HV5.out
   | true=>
    have HOK:=Lib.hid hok
    clear hok
    go_wp2_with (go_at_call 140; refine (HA.out _ (by (repeat (first | exact Up.rfl' _ | (refine Up.al _ ?_) | (refine Up.dr _ ?_) | (refine Up.dr1 ?_) | (refine Up.sc ?_ (by first | exact Nat.le_refl _ | (simp; done) | omega) _) | (refine Up.step (by assumption) ?_)))) x).mono ?_; rintro e w5 ⟨rfl,hu5⟩; rw [HOK.out]; refine Hid.out ?_)
    have f0:w5.cell? ⟨wr.heap.size,0,none⟩=some (I x.thing):=ZbE (by simp) (by simp) hu5
    have f1:w5.cell? ⟨wr.heap.size,1,none⟩=some (I x.at_):=ZbE (by simp) (by simp) hu5
    have f2:w5.cell? ⟨wr.heap.size,2,none⟩=some (I x.kind):=ZbE (by simp) (by simp) hu5
    have f3:w5.cell? ⟨wr.heap.size,3,none⟩=some (.string x.place):=ZbE (by simp) (by simp) hu5
    have f4:w5.cell? ⟨wr.heap.size,4,none⟩=some (I x.trip.leg):=ZbE (by simp) (by simp) hu5
    have f5:w5.cell? ⟨wr.heap.size,5,none⟩=some (I x.trip.day):=ZbE (by simp) (by simp) hu5
    have hs5:wr.heap.size+1≤w5.heap.size:=by have:=hu5.size; simpa using this
    have hx5:w5.heap[w.heap.size+2]?=some (.cells #[.slice A3 ((l.take i).filter (okS1 n)).length c3] 39 (0,0)):=(hu5.block _ (by simp; omega)).trans (((Up.al _ (Up.rfl' wr)).block _ hz).trans HX.out)
    have fx:w5.cell? ⟨w.heap.size+2,0,none⟩=some (.slice A3 ((l.take i).filter (okS1 n)).length c3):=by rw [cell_of_row w5 _ 0 _ _ (0,0) hx5]; rfl
    have hwr5:Up (w.alloc (.cells #[v0,v1,I n.change] 35)) w5:=Up.step hu5 (Up.al _ HWR.out)
    have hv5:=HV.out.up (Up.step hu5 (Up.al _ (Up.rfl' wr)))
    have hrd1:Rd (w5.alloc (.cells #[I x.thing,I x.at_,I x.kind,.string x.place,I x.trip.leg,I x.trip.day] 130)) (w5.heap.size+1) (some ⟨w5.heap.size,0,none⟩) [x]:=Rd.one w5 130 x (w5.heap.size+1) (by omega)
    have HX5:=Lib.hid hx5
    have HW5:=Lib.hid hwr5
    have HV5:=Lib.hid hv5
    have HR1:=Lib.hid hrd1
    have hz5:w.heap.size+2<w5.heap.size:=by omega
    have hz6:w5.heap.size≠w.heap.size+2:=by omega
    have hz7:w.heap.size+2≠w5.heap.size:=by omega
    clear hx5 hwr5 hv5 hrd1 hu5 d0 d1 d2 d3 d4 d5 e0 e1 e2 hcx
    refine Lib.hid ?_
    go_wp2_with (at_builtin; refine ZW Zv7 rfl (.tmp 25) (.tmp 27) rfl (base:=w.heap.size+1) (ys:=(l.take i).filter (okS1 n)) (xs:=[x]) (by rfl) (HV5.out.up (by (repeat (first | exact Up.rfl' _ | (refine Up.al _ ?_) | (refine Up.dr _ ?_) | (refine Up.dr1 ?_) | (refine Up.sc ?_ (by first | exact Nat.le_refl _ | (simp; done) | omega) _) | (refine Up.step (by assumption) ?_))))) 1 (by rfl) rfl HR1.out (by simp only [List.length_cons,List.length_nil]; omega) (by unfold maxLen; simp only [List.length_cons,List.length_nil]; omega) (by simp; omega) ?_; intro v' w6 ho6 hg6 _ hu6; refine Hid.out ?_)
    have hx6:w6.heap[w.heap.size+2]?=some (.cells #[.slice A3 ((l.take i).filter (okS1 n)).length c3] 39 (0,0)):=by
     rw [hg6.block _ (by simp; omega) (fun e=>Zsy HV5.out HX5.out e.symm)]
     exact ((Up.al _ (Up.rfl' w5)).block _ hz5).trans HX5.out
    obtain ⟨A4,c4,rfl,hc4,hm4⟩:=ho6.form
    have hl6:((l.take i).filter (okS1 n)++[x]).length=((l.take i).filter (okS1 n)).length+1:=by simp
    rw [hl6] at ho6 ⊢
    clear hl6
    have hcell6:w6.cell? ⟨w.heap.size+2,0,none⟩=some (.slice A3 ((l.take i).filter (okS1 n)).length c3):=by rw [cell_of_row w6 _ 0 _ _ (0,0) hx6]; rfl
    have hfr6:w6.frozen? ⟨w.heap.size+2,0,none⟩=false:=by simp [World.frozen?,hx6]
    have hwr6:Up (w.alloc (.cells #[v0,v1,I n.change] 35)) w6:=hu6 _ (by simp) (Up.al _ HW5.out)
    have HX6:=Lib.hid hx6
    have HO6:=Lib.hid ho6
    have HW6:=Lib.hid hwr6
    clear hx6 ho6 hg6 hu6 hwr6 hc4 hm4
    refine Lib.hid ?_
    go_wp2
    refine ⟨⟨i+1,_,by go_num,by omega,?_,heap_setCell_same w6 _ 0 _ _ _ HX6.out,Up.sc HW6.out (by simp) _⟩,by simp [intOf]; omega⟩
    rw [HTK.out,HOK.out,if_pos rfl]
    exact HO6.out.grown (row:=some (w.heap.size+2)) ⟨rfl,rfl,rfl,by simp,fun k hk hne=>heap_setCell_other _ _ _ _ (fun e=>hne (by rw [e]))⟩ (.inr (Zsy HO6.out HX6.out))
  ·have hie:i=m:=by omega
   subst hie
   have hvs:(l.take i).filter (okS1 n)=Zg9 n l:=by unfold Zg9; rw [HMT.out]
   rw [hvs] at HV HX hcx hvl
   clear hvs
   have hst:=Zu1 HV.out HX.out (by omega) (Zty HT.out (Up.step HWR.out (Up.al _ (Up.rfl' w))) (by omega)) (fun b h=>h)
   have hge:¬ (i:Int)<(i:Int):=by omega
   go_wp2_with (go_at_call 200; refine hst.mono ?_; rintro e w4 ⟨rfl,ys,hp,hs,ho4,hu4⟩; refine Hid.out ?_)
   have hyl:ys.length=(Zg9 n l).length:=hp.length_eq
   have hup4:Up (w.alloc (.cells #[v0,v1,I n.change] 35)) w4:=by
    have h:=HWR.out
    exact ⟨hu4.os.trans h.os,hu4.tape.trans h.tape,hu4.output.trans h.output,Nat.le_trans h.size hu4.size,fun b hb=>(hu4.block b (Nat.lt_of_lt_of_le hb h.size) (fun hh=>by simp at hb; omega)).trans (h.block b hb)⟩
   have ex:w4.heap[w.heap.size+2]?=some (.cells #[.slice A3 (Zg9 n l).length c3] 39 (0,0)):=(hu4.block _ hz (fun hh=>hh.2 rfl)).trans HX.out
   have exc:w4.cell? ⟨w.heap.size+2,0,none⟩=some (.slice A3 (Zg9 n l).length c3):=by rw [cell_of_row w4 _ 0 _ _ (0,0) ex]; rfl
   have hrd:Rd w4 w4.heap.size A3 ys:=by
    rw [← hyl] at ho4
    obtain ⟨A5,c5,e5,h5,h6⟩:=ho4.form
    obtain ⟨rfl,rfl⟩:A3=A5∧c3=c5:=by simpa using e5
    exact ho4.rd
   have HYL:=Lib.hid hyl
   have HA3:=Lib.hid (show A3=A3 from rfl)
   have hz4:w.heap.size+2<w4.heap.size:=Nat.lt_of_lt_of_le hz hu4.size
   have HRD:=Lib.hid hrd
   have HUP:=Lib.hid hup4
   have HP:=Lib.hid hp
   have HS:=Lib.hid hs
   clear hst hp hs ho4 hu4 hup4 ex hrd hyl
   refine Lib.hid ?_
   go_wp2_with fail
   have hNl:(Zg9 n l).length≤200:=hvl
   generalize hNN:(Zg9 n l).length=N at *
   clear hNN
   go_loopw [37,8] (fun vi v8 wr=>∃ (i:Nat),vi=.int .i64 i∧i≤N∧Own wr w4.heap.size 130 v8 (ddV ys i)∧Up w4 wr) (fun vi _ _=>N-(intOf vi).toNat)
   case atStart=>
    refine ⟨0,by go_num,by omega,?_,Up.al _ (Up.rfl' _)⟩
    rw [show ddV ys 0=[] from rfl]
    exact ⟨by rw [ZeL],.inr ⟨w4.heap.size,0,#[],rfl,Nat.le_refl _,heap_alloc_new _ _,by simp,by unfold maxLen; omega,by simp,by simp [flat]⟩⟩
   case round=>
    obtain ⟨j,rfl,hj,hv,hwr⟩:=hrel
    obtain ⟨A6,c6,rfl,hc6,hm6⟩:=hv.form
    have HV2:=Lib.hid hv
    have HWR2:=Lib.hid hwr
    have hzr:w.heap.size+2<wr.heap.size:=Nat.lt_of_lt_of_le hz4 hwr.size
    have hcx:wr.cell? ⟨w.heap.size+2,0,none⟩=some (.slice A3 N c3):=ZbE exc hz4 hwr
    clear hv hwr hc6 hm6
    by_cases hlt:j<N
    ·have hjl:j<ys.length:=by rw [HYL.out]; exact hlt
     obtain ⟨b,off,hA3,hbb,hcc⟩:=(HRD.out.up HWR2.out).at_ (List.getElem?_eq_getElem hjl)
     subst hA3
     have d0:wr.cell? ⟨b,off+j*6,none⟩=some (I ys[j].thing):=hcc 0 _ rfl
     have d1:wr.cell? ⟨b,off+j*6+1,none⟩=some (I ys[j].at_):=hcc 1 _ rfl
     have d2:wr.cell? ⟨b,off+j*6+2,none⟩=some (I ys[j].kind):=hcc 2 _ rfl
     have d3:wr.cell? ⟨b,off+j*6+3,none⟩=some (.string ys[j].place):=hcc 3 _ rfl
     have d4:wr.cell? ⟨b,off+j*6+4,none⟩=some (I ys[j].trip.leg):=hcc 4 _ rfl
     have d5:wr.cell? ⟨b,off+j*6+5,none⟩=some (I ys[j].trip.day):=hcc 5 _ rfl
     clear hcc
     have hpos:(j:Int)<(N:Int):=by omega
     have hdl:(ddV ys j).length≤200:=by
      have:∀ k,(ddV ys k).length≤k:=fun k=>by
       induction k with
       | zero=>simp [ddV]
       | succ k ih=>
        unfold ddV at ih ⊢
        rw [List.range_succ,List.flatMap_append,List.length_append]
        simp only [List.flatMap_cons,List.flatMap_nil,List.append_nil]
        split
        ·split <;> simp only [List.length_cons,List.length_nil] <;> omega
        ·simp only [List.length_nil]; omega
      have:=this j
      omega
     have HDD:=Lib.hid (ZrJ ys j hjl)
     have hpx:∀ (h:¬ j=0),∃ p,ys[j-1]?=some p:=fun h=>⟨_,List.getElem?_eq_getElem (show j-1<ys.length by omega)⟩
     have HPX:=Lib.hid hpx
     clear hpx
     generalize ys[j]=x at d0 d1 d2 d3 d4 d5 HDD ⊢
     by_cases hj0:j=0
     ·have hjb:((j:Int) == 0)=true:=by simp [hj0]
      have HYES:Hid (j=0∨¬ ys[j-1]?=some x):=.inl hj0
      clear hj0
      go_wp2_with fail
      (
       have f0:(wr.alloc (.cells #[I x.thing,I x.at_,I x.kind,.string x.place,I x.trip.leg,I x.trip.day] 130)).cell? ⟨wr.heap.size,0,none⟩=some (I x.thing):=by simp
       have f1:(wr.alloc (.cells #[I x.thing,I x.at_,I x.kind,.string x.place,I x.trip.leg,I x.trip.day] 130)).cell? ⟨wr.heap.size,1,none⟩=some (I x.at_):=by simp
       have f2:(wr.alloc (.cells #[I x.thing,I x.at_,I x.kind,.string x.place,I x.trip.leg,I x.trip.day] 130)).cell? ⟨wr.heap.size,2,none⟩=some (I x.kind):=by simp
       have f3:(wr.alloc (.cells #[I x.thing,I x.at_,I x.kind,.string x.place,I x.trip.leg,I x.trip.day] 130)).cell? ⟨wr.heap.size,3,none⟩=some (.string x.place):=by simp
       have f4:(wr.alloc (.cells #[I x.thing,I x.at_,I x.kind,.string x.place,I x.trip.leg,I x.trip.day] 130)).cell? ⟨wr.heap.size,4,none⟩=some (I x.trip.leg):=by simp
       have f5:(wr.alloc (.cells #[I x.thing,I x.at_,I x.kind,.string x.place,I x.trip.leg,I x.trip.day] 130)).cell? ⟨wr.heap.size,5,none⟩=some (I x.trip.day):=by simp
       have fu:Up wr (wr.alloc (.cells #[I x.thing,I x.at_,I x.kind,.string x.place,I x.trip.leg,I x.trip.day] 130)):=Up.al _ (Up.rfl' wr)
       generalize (wr.alloc (.cells #[I x.thing,I x.at_,I x.kind,.string x.place,I x.trip.leg,I x.trip.day] 130))=w5 at f0 f1 f2 f3 f4 f5 fu ⊢
       (have Ef0:=Ups.cell f0; have Ef1:=Ups.cell f1; have Ef2:=Ups.cell f2; have Ef3:=Ups.cell f3; have Ef4:=Ups.cell f4; have Ef5:=Ups.cell f5; refine Zhx (by kernel_rfl) (by kernel_rfl) ?_; (repeat (go_big_quiet_step (fail))); refine wpQuiet_nil ?_; intro wqa hqa; clear Ef0 Ef1 Ef2 Ef3 Ef4 Ef5; replace f0:=ZcG f0 hqa; replace f1:=ZcG f1 hqa; replace f2:=ZcG f2 hqa; replace f3:=ZcG f3 hqa; replace f4:=ZcG f4 hqa; replace f5:=ZcG f5 hqa)
       refine Hid.out ?_)
      have hwr5:Up w4 wqa:=Up.step hqa (Up.step fu HWR2.out)
      have hv5:=HV2.out.up (Up.step hqa fu)
      have hs5:w.heap.size+2<wqa.heap.size:=Nat.lt_of_lt_of_le hzr (Nat.le_trans fu.size hqa.size)
      have hs6:w4.heap.size≤wqa.heap.size:=hwr5.size
      have hrd1:Rd (wqa.alloc (.cells #[I x.thing,I x.at_,I x.kind,.string x.place,I x.trip.leg,I x.trip.day] 130)) (wqa.heap.size+1) (some ⟨wqa.heap.size,0,none⟩) [x]:=Rd.one wqa 130 x (wqa.heap.size+1) (by omega)
      have HW5:=Lib.hid hwr5
      have HV5:=Lib.hid hv5
      have HR1:=Lib.hid hrd1
      clear hwr5 hv5 hrd1 hqa fu
      refine Lib.hid ?_
      go_wp2_with (at_builtin; refine ZW Zv7 rfl (.tmp 53) (.tmp 55) rfl (base:=w4.heap.size) (ys:=ddV ys j) (xs:=[x]) (by rfl) (HV5.out.up (by (repeat (first | exact Up.rfl' _ | (refine Up.al _ ?_) | (refine Up.dr _ ?_) | (refine Up.dr1 ?_) | (refine Up.sc ?_ (by first | exact Nat.le_refl _ | (simp; done) | omega) _) | (refine Up.step (by assumption) ?_))))) 1 (by rfl) rfl HR1.out (by simp only [List.length_cons,List.length_nil]; omega) (by unfold maxLen; simp only [List.length_cons,List.length_nil]; omega) (by simp; omega) ?_; intro v' w6 ho6 hg6 _ hu6; refine Hid.out ?_)
      have hwr6:Up w4 w6:=hu6 _ (by simp) (Up.al _ HW5.out)
      have HO6:=Lib.hid ho6
      have HW6:=Lib.hid hwr6
      clear ho6 hg6 hu6 hwr6
      refine Lib.hid ?_
      go_wp2
      refine ⟨⟨j+1,by go_num,by omega,?_,HW6.out⟩,by simp [intOf]; omega⟩
      rw [HDD.out,if_pos HYES.out]
      exact HO6.out
     ·obtain ⟨p,hp1⟩:=HPX.out hj0
      obtain ⟨k,hk⟩:∃ k,j=k+1:=⟨j-1,by omega⟩
      have hk1:(j:Int)-1=(k:Int):=by omega
      have hkN:k<N:=by omega
      have hjb:((j:Int) == 0)=false:=by simp [hj0]
      rw [show j-1=k by omega] at hp1
      obtain ⟨b',off',e',hbb',hcc⟩:=(HRD.out.up HWR2.out).at_ hp1
      obtain ⟨rfl,rfl⟩:b=b'∧off=off':=by simpa using e'
      have HP1:=Lib.hid hp1
      by_cases hpx:p=x
      ·subst hpx
       have HNO:Hid (¬ (j=0∨¬ ys[j-1]?=some p)):=fun h=>by
        rcases h with h | h
        ·exact hj0 h
        ·exact h (by rw [show j-1=k by omega]; exact HP1.out)
       clear hk hj0 hp1 e'
       clear hbb'
       go_wp2_with fail
       (
        have f0:(wr.alloc (.cells #[I p.thing,I p.at_,I p.kind,.string p.place,I p.trip.leg,I p.trip.day] 130)).cell? ⟨wr.heap.size,0,none⟩=some (I p.thing):=by simp
        have f1:(wr.alloc (.cells #[I p.thing,I p.at_,I p.kind,.string p.place,I p.trip.leg,I p.trip.day] 130)).cell? ⟨wr.heap.size,1,none⟩=some (I p.at_):=by simp
        have f2:(wr.alloc (.cells #[I p.thing,I p.at_,I p.kind,.string p.place,I p.trip.leg,I p.trip.day] 130)).cell? ⟨wr.heap.size,2,none⟩=some (I p.kind):=by simp
        have f3:(wr.alloc (.cells #[I p.thing,I p.at_,I p.kind,.string p.place,I p.trip.leg,I p.trip.day] 130)).cell? ⟨wr.heap.size,3,none⟩=some (.string p.place):=by simp
        have f4:(wr.alloc (.cells #[I p.thing,I p.at_,I p.kind,.string p.place,I p.trip.leg,I p.trip.day] 130)).cell? ⟨wr.heap.size,4,none⟩=some (I p.trip.leg):=by simp
        have f5:(wr.alloc (.cells #[I p.thing,I p.at_,I p.kind,.string p.place,I p.trip.leg,I p.trip.day] 130)).cell? ⟨wr.heap.size,5,none⟩=some (I p.trip.day):=by simp
        have fu:Up wr (wr.alloc (.cells #[I p.thing,I p.at_,I p.kind,.string p.place,I p.trip.leg,I p.trip.day] 130)):=Up.al _ (Up.rfl' wr)
        have fx:(wr.alloc (.cells #[I p.thing,I p.at_,I p.kind,.string p.place,I p.trip.leg,I p.trip.day] 130)).cell? ⟨w.heap.size+2,0,none⟩=some (.slice (some ⟨b,off,none⟩) N c3):=ZbE hcx hzr fu
        have g0:(wr.alloc (.cells #[I p.thing,I p.at_,I p.kind,.string p.place,I p.trip.leg,I p.trip.day] 130)).cell? ⟨b,off+k*6,none⟩=some (I p.thing):=ZbE (hcc 0 _ rfl) hbb fu
        have g1:(wr.alloc (.cells #[I p.thing,I p.at_,I p.kind,.string p.place,I p.trip.leg,I p.trip.day] 130)).cell? ⟨b,off+k*6+1,none⟩=some (I p.at_):=ZbE (hcc 1 _ rfl) hbb fu
        have g2:(wr.alloc (.cells #[I p.thing,I p.at_,I p.kind,.string p.place,I p.trip.leg,I p.trip.day] 130)).cell? ⟨b,off+k*6+2,none⟩=some (I p.kind):=ZbE (hcc 2 _ rfl) hbb fu
        have g3:(wr.alloc (.cells #[I p.thing,I p.at_,I p.kind,.string p.place,I p.trip.leg,I p.trip.day] 130)).cell? ⟨b,off+k*6+3,none⟩=some (.string p.place):=ZbE (hcc 3 _ rfl) hbb fu
        have g4:(wr.alloc (.cells #[I p.thing,I p.at_,I p.kind,.string p.place,I p.trip.leg,I p.trip.day] 130)).cell? ⟨b,off+k*6+4,none⟩=some (I p.trip.leg):=ZbE (hcc 4 _ rfl) hbb fu
        have g5:(wr.alloc (.cells #[I p.thing,I p.at_,I p.kind,.string p.place,I p.trip.leg,I p.trip.day] 130)).cell? ⟨b,off+k*6+5,none⟩=some (I p.trip.day):=ZbE (hcc 5 _ rfl) hbb fu
        clear hcc
        generalize (wr.alloc (.cells #[I p.thing,I p.at_,I p.kind,.string p.place,I p.trip.leg,I p.trip.day] 130))=w5 at f0 f1 f2 f3 f4 f5 fu fx g0 g1 g2 g3 g4 g5 ⊢
        (have Ef0:=Ups.cell f0; have Ef1:=Ups.cell f1; have Ef2:=Ups.cell f2; have Ef3:=Ups.cell f3; have Ef4:=Ups.cell f4; have Ef5:=Ups.cell f5; have Efx:=Ups.cell fx; have Eg0:=Ups.cell g0; have Eg1:=Ups.cell g1; have Eg2:=Ups.cell g2; have Eg3:=Ups.cell g3; have Eg4:=Ups.cell g4; have Eg5:=Ups.cell g5; refine Zhx (by kernel_rfl) (by kernel_rfl) ?_; (repeat (go_big_quiet_step (fail))); refine wpQuiet_nil ?_; intro wqa hqa; clear Ef0 Ef1 Ef2 Ef3 Ef4 Ef5 Efx Eg0 Eg1 Eg2 Eg3 Eg4 Eg5; replace f0:=ZcG f0 hqa; replace f1:=ZcG f1 hqa; replace f2:=ZcG f2 hqa; replace f3:=ZcG f3 hqa; replace f4:=ZcG f4 hqa; replace f5:=ZcG f5 hqa; replace fx:=ZcG fx hqa; replace g0:=ZcG g0 hqa; replace g1:=ZcG g1 hqa; replace g2:=ZcG g2 hqa; replace g3:=ZcG g3 hqa; replace g4:=ZcG g4 hqa; replace g5:=ZcG g5 hqa)
        refine Hid.out ?_)
       have hwr5:Up w4 wqa:=Up.step hqa (Up.step fu HWR2.out)
       have hv5:=HV2.out.up (Up.step hqa fu)
       have HW5:=Lib.hid hwr5
       have HV5:=Lib.hid hv5
       clear hwr5 hv5 hqa fu
       refine Lib.hid ?_
       go_wp2
       refine ⟨⟨j+1,by go_num,by omega,?_,HW5.out⟩,by simp [intOf]; omega⟩
       rw [HDD.out,if_neg HNO.out,List.append_nil]
       exact HV5.out
      ·have HYES:Hid (j=0∨¬ ys[j-1]?=some x):=.inr (by rw [show j-1=k by omega,HP1.out]; exact fun h=>hpx (Option.some.inj h))
       clear hk hj0 hp1 e'
       have hcase:=Zzm hpx
       clear hpx HP1
       obtain ⟨pt,pa,pk,pp,pl,pd⟩:=p
       simp only at hcase hcc
       rcases hcase with h | ⟨rfl,h⟩ | ⟨rfl,rfl,h⟩ | ⟨rfl,rfl,rfl,h⟩ | ⟨rfl,rfl,rfl,rfl,h⟩ | ⟨rfl,rfl,rfl,rfl,rfl,h⟩
       all_goals
        (clear hbb'
         go_wp2_with fail
         (
          have f0:(wr.alloc (.cells #[I x.thing,I x.at_,I x.kind,.string x.place,I x.trip.leg,I x.trip.day] 130)).cell? ⟨wr.heap.size,0,none⟩=some (I x.thing):=by simp
          have f1:(wr.alloc (.cells #[I x.thing,I x.at_,I x.kind,.string x.place,I x.trip.leg,I x.trip.day] 130)).cell? ⟨wr.heap.size,1,none⟩=some (I x.at_):=by simp
          have f2:(wr.alloc (.cells #[I x.thing,I x.at_,I x.kind,.string x.place,I x.trip.leg,I x.trip.day] 130)).cell? ⟨wr.heap.size,2,none⟩=some (I x.kind):=by simp
          have f3:(wr.alloc (.cells #[I x.thing,I x.at_,I x.kind,.string x.place,I x.trip.leg,I x.trip.day] 130)).cell? ⟨wr.heap.size,3,none⟩=some (.string x.place):=by simp
          have f4:(wr.alloc (.cells #[I x.thing,I x.at_,I x.kind,.string x.place,I x.trip.leg,I x.trip.day] 130)).cell? ⟨wr.heap.size,4,none⟩=some (I x.trip.leg):=by simp
          have f5:(wr.alloc (.cells #[I x.thing,I x.at_,I x.kind,.string x.place,I x.trip.leg,I x.trip.day] 130)).cell? ⟨wr.heap.size,5,none⟩=some (I x.trip.day):=by simp
          have fu:Up wr (wr.alloc (.cells #[I x.thing,I x.at_,I x.kind,.string x.place,I x.trip.leg,I x.trip.day] 130)):=Up.al _ (Up.rfl' wr)
          have fx:(wr.alloc (.cells #[I x.thing,I x.at_,I x.kind,.string x.place,I x.trip.leg,I x.trip.day] 130)).cell? ⟨w.heap.size+2,0,none⟩=some (.slice (some ⟨b,off,none⟩) N c3):=ZbE hcx hzr fu
          have g0:(wr.alloc (.cells #[I x.thing,I x.at_,I x.kind,.string x.place,I x.trip.leg,I x.trip.day] 130)).cell? ⟨b,off+k*6,none⟩=some _:=ZbE (hcc 0 _ rfl) hbb fu
          have g1:(wr.alloc (.cells #[I x.thing,I x.at_,I x.kind,.string x.place,I x.trip.leg,I x.trip.day] 130)).cell? ⟨b,off+k*6+1,none⟩=some _:=ZbE (hcc 1 _ rfl) hbb fu
          have g2:(wr.alloc (.cells #[I x.thing,I x.at_,I x.kind,.string x.place,I x.trip.leg,I x.trip.day] 130)).cell? ⟨b,off+k*6+2,none⟩=some _:=ZbE (hcc 2 _ rfl) hbb fu
          have g3:(wr.alloc (.cells #[I x.thing,I x.at_,I x.kind,.string x.place,I x.trip.leg,I x.trip.day] 130)).cell? ⟨b,off+k*6+3,none⟩=some _:=ZbE (hcc 3 _ rfl) hbb fu
          have g4:(wr.alloc (.cells #[I x.thing,I x.at_,I x.kind,.string x.place,I x.trip.leg,I x.trip.day] 130)).cell? ⟨b,off+k*6+4,none⟩=some _:=ZbE (hcc 4 _ rfl) hbb fu
          have g5:(wr.alloc (.cells #[I x.thing,I x.at_,I x.kind,.string x.place,I x.trip.leg,I x.trip.day] 130)).cell? ⟨b,off+k*6+5,none⟩=some _:=ZbE (hcc 5 _ rfl) hbb fu
          clear hcc
          generalize (wr.alloc (.cells #[I x.thing,I x.at_,I x.kind,.string x.place,I x.trip.leg,I x.trip.day] 130))=w5 at f0 f1 f2 f3 f4 f5 fu fx g0 g1 g2 g3 g4 g5 ⊢
          (have Ef0:=Ups.cell f0; have Ef1:=Ups.cell f1; have Ef2:=Ups.cell f2; have Ef3:=Ups.cell f3; have Ef4:=Ups.cell f4; have Ef5:=Ups.cell f5; have Efx:=Ups.cell fx; have Eg0:=Ups.cell g0; have Eg1:=Ups.cell g1; have Eg2:=Ups.cell g2; have Eg3:=Ups.cell g3; have Eg4:=Ups.cell g4; have Eg5:=Ups.cell g5; refine Zhx (by kernel_rfl) (by kernel_rfl) ?_; (repeat (go_big_quiet_step (fail))); refine wpQuiet_nil ?_; intro wqa hqa; clear Ef0 Ef1 Ef2 Ef3 Ef4 Ef5 Efx Eg0 Eg1 Eg2 Eg3 Eg4 Eg5; replace f0:=ZcG f0 hqa; replace f1:=ZcG f1 hqa; replace f2:=ZcG f2 hqa; replace f3:=ZcG f3 hqa; replace f4:=ZcG f4 hqa; replace f5:=ZcG f5 hqa; replace fx:=ZcG fx hqa; replace g0:=ZcG g0 hqa; replace g1:=ZcG g1 hqa; replace g2:=ZcG g2 hqa; replace g3:=ZcG g3 hqa; replace g4:=ZcG g4 hqa; replace g5:=ZcG g5 hqa)
          refine Hid.out ?_)
         have hwr5:Up w4 wqa:=Up.step hqa (Up.step fu HWR2.out)
         have hv5:=HV2.out.up (Up.step hqa fu)
         have hs5:w.heap.size+2<wqa.heap.size:=Nat.lt_of_lt_of_le hzr (Nat.le_trans fu.size hqa.size)
         have hs6:w4.heap.size≤wqa.heap.size:=hwr5.size
         have hrd1:Rd (wqa.alloc (.cells #[I x.thing,I x.at_,I x.kind,.string x.place,I x.trip.leg,I x.trip.day] 130)) (wqa.heap.size+1) (some ⟨wqa.heap.size,0,none⟩) [x]:=Rd.one wqa 130 x (wqa.heap.size+1) (by omega)
         have HW5:=Lib.hid hwr5
         have HV5:=Lib.hid hv5
         have HR1:=Lib.hid hrd1
         clear hwr5 hv5 hrd1 hqa fu
         refine Lib.hid ?_
         go_wp2_with (at_builtin; refine ZW Zv7 rfl (.tmp 53) (.tmp 55) rfl (base:=w4.heap.size) (ys:=ddV ys j) (xs:=[x]) (by rfl) (HV5.out.up (by (repeat (first | exact Up.rfl' _ | (refine Up.al _ ?_) | (refine Up.dr _ ?_) | (refine Up.dr1 ?_) | (refine Up.sc ?_ (by first | exact Nat.le_refl _ | (simp; done) | omega) _) | (refine Up.step (by assumption) ?_))))) 1 (by rfl) rfl HR1.out (by simp only [List.length_cons,List.length_nil]; omega) (by unfold maxLen; simp only [List.length_cons,List.length_nil]; omega) (by simp; omega) ?_; intro v' w6 ho6 hg6 _ hu6; refine Hid.out ?_)
         have hwr6:Up w4 w6:=hu6 _ (by simp) (Up.al _ HW5.out)
         have HO6:=Lib.hid ho6
         have HW6:=Lib.hid hwr6
         clear ho6 hg6 hu6 hwr6
         refine Lib.hid ?_
         go_wp2
         refine ⟨⟨j+1,by go_num,by omega,?_,HW6.out⟩,by simp [intOf]; omega⟩
         rw [HDD.out,if_pos HYES.out]
         exact HO6.out)
    ·have hje:j=N:=by omega
     subst hje
     have hge2:¬ (j:Int)<(j:Int):=by omega
     have hyl2:=HYL.out
     go_wp2
     go_ret
     refine ⟨_,rfl,ys,HP.out,HS.out,?_,Up.step HWR2.out (Up.step HUP.out (Up.al _ (Up.rfl' w)))⟩
     rw [hyl2]
     exact HV2.out.more (by have:=HUP.out.size; simp at this; omega)
end
def insC (x:Zk):List Zk→List Zk
 | []=>[x]
 | y::ys=>if scB x y=true then x::y::ys else y::insC x ys
def ZfL:List Zk→List Zk
 | []=>[]
 | x::xs=>insC x (ZfL xs)
abbrev leS (a b:Zk):Prop:=scB b a=false
theorem Zkk (x:Zk):∀ l:List Zk,(insC x l).Perm (x::l)
 | []=>.refl _
 | y::ys=>by
  unfold insC
  split
  ·exact .refl _
  ·exact ((Zkk x ys).cons y).trans (.swap x y ys)
theorem ZhK:∀ l:List Zk,(ZfL l).Perm l
 | []=>.refl _
 | x::xs=>(Zkk x (ZfL xs)).trans ((ZhK xs).cons x)
theorem Zmo {a b:Zk} (h:scB a b=true):scB b a=false:=Go.Sort.SWO.asymmA ZnP h
theorem Zpw (x:Zk):∀ l:List Zk,l.Pairwise leS→(insC x l).Pairwise leS
 | [],_=>by simp [insC]
 | y::ys,h=>by
  obtain ⟨h1,h2⟩:=List.pairwise_cons.1 h
  unfold insC
  by_cases hc:scB x y=true
  ·rw [if_pos hc]
   refine List.pairwise_cons.2 ⟨fun z hz=>?_,h⟩
   rcases List.mem_cons.1 hz with rfl | hz
   ·exact Zmo hc
   ·exact ZnP.ntrans _ _ _ (h1 z hz) (Zmo hc)
  ·rw [if_neg hc]
   refine List.pairwise_cons.2 ⟨fun z hz=>?_,Zpw x ys h2⟩
   rcases List.mem_cons.1 ((Zkk x ys).mem_iff.1 hz) with rfl | hz
   ·simpa using hc
   ·exact h1 z hz
theorem ZkM:∀ l:List Zk,(ZfL l).Pairwise leS
 | []=>.nil
 | x::xs=>Zpw x _ (ZkM xs)
theorem Zxd {a b:Zk} (h1:scB a b=false) (h2:scB b a=false):a=b:=by
 have g1:=(ZkH _ _).1 h1
 have g2:=(ZkH _ _).1 h2
 have e1:cmpS a.place b.place=- cmpS b.place a.place:=ZjZ _ _
 unfold scLt at g1 g2
 have hz:cmpS a.place b.place=0:=by omega
 have hp:a.place=b.place:=by
  have:=ZlV hz
  obtain ⟨_,_,_,⟨⟨p⟩⟩,_⟩:=a
  obtain ⟨_,_,_,⟨⟨q⟩⟩,_⟩:=b
  simp only at this ⊢
  rw [this]
 obtain ⟨x1,x2,x3,x4,⟨x5,x6⟩⟩:=a
 obtain ⟨y1,y2,y3,y4,⟨y5,y6⟩⟩:=b
 simp only at g1 g2 hp hz e1
 subst hp
 obtain ⟨rfl,rfl,rfl,rfl,rfl⟩:x1=y1∧x2=y2∧x3=y3∧x5=y5∧x6=y6:=by omega
 rfl
theorem ZnI {d e:List Zk} (hp:d.Perm e) (hd:d.Pairwise leS) (he:e.Pairwise leS):d=e:=
 List.Perm.eq_of_pairwise (le:=leS) (fun a b _ _ h1 h2=>Zxd h2 h1) hd he hp
def Zc3 (n:Za) (l:List Zk):Option (List Zk):=
 if fitB n=true∧l.length≤1048576 then some (ddV (ZfL (Zg9 n l)) (ZfL (Zg9 n l)).length) else none
theorem arr2 {vs:Array Value} {x0 x1:Value} (h:vs.size=2) (h0:vs[0]?=some x0) (h1:vs[1]?=some x1):vs=#[x0,x1]:=by
 apply Array.ext (by simp [h])
 intro i hi hj
 have a0:=(Array.getElem?_eq_some_iff.1 h0).2
 have a1:=(Array.getElem?_eq_some_iff.1 h1).2
 match i,hi with
 | 0,_=>simpa using a0
 | 1,_=>simpa using a1
 | i+2,hi=>omega
theorem ZiV (n:Za) (l:List Zk) {r:List Zk} (H:Zc3 n l=some r):Zev Tryz.prog 220 [.ag (Zr n),.sl (l.map ZF)] [] (.ms 0) [some ⟨130,6,r.map ZF⟩]:=by
 unfold Zc3 at H
 split at H
 case isFalse=>cases H
 rename_i hok
 obtain ⟨hf,hln⟩:=hok
 have hf:=Zim.1 hf
 obtain rfl:=Option.some.inj H
 intro S β w vs hk hl ha
 obtain ⟨x0,q0,r0⟩:=ha 0 _ rfl
 obtain ⟨x1,q1,r1⟩:=ha 1 _ rfl
 obtain rfl:=arr2 hl q0 q1
 obtain ⟨us,rfl,hul,hu1,hur⟩:=r0.ag_inv
 have hul':us.size=3:=hul
 have z0:us[0]?=some us[0]:=Array.getElem?_eq_getElem (by omega)
 have z1:us[1]?=some us[1]:=Array.getElem?_eq_getElem (by omega)
 have z2:us[2]?=some us[2]:=Array.getElem?_eq_getElem (by omega)
 have hus:us=#[us[0],us[1],us[2]]:=ZxI hul' z0 z1 z2
 have w0:=(hur 0 (.sl (n.legs.map cLeg)) _ rfl z0).sl_inv
 have w1:=(hur 1 (.sl (n.off.map cInt)) _ rfl z1).sl_inv
 have w2:=ZlF (hur 2 (vi n.change) _ rfl z2)
 have w4:=r1.sl_inv
 have up:∀ {p:PV} {x:Value},RepC w S p x→RepC w (SW w) p x:=fun h=>h.ext (fun b hb=>hk.sz b hb) fun _ _ _=>rfl
 obtain ⟨A,wn,rfl,hwn,hwm,hrd⟩:=ZsU (id:Zk→Zk) (c:=ZF) hk.sz w4
 rw [List.map_id] at hrd
 rw [hus,w2]
 refine (Zxj hf hk.tab (up w0) (up w1) hln hwn hrd).mono ?_
 rintro e w' ⟨v,ys,rfl,hp,hs,ho,hu⟩
 obtain rfl:=ZnI (hp.trans (ZhK _).symm) hs (ZkM _)
 obtain ⟨E',h1,h2,h3,h4,h5⟩:=Zku (c:=ZF) hk ho hu (fun x=>⟨rfl,fun j p hj=>by
  obtain ⟨u,hu1,hu2⟩:=Zic.at_ (c:=ZF) (g:=(id:Zk→Zk)) x j p hj
  exact ⟨u,hu1,Enc.one _ u (List.mem_of_getElem? hu1),fun w E=>by rw [hu2]; exact Zh8 _ (Enc.one _ u (List.mem_of_getElem? hu1))⟩⟩)
 exact ⟨_,E',rfl,h1,h2,h3,h4,h5⟩
instance (n:Za) (l:List Zk):CT Tryz.prog (Zc3 n l):=⟨220,[.ag (Zr n),.sl (l.map ZF)],[],fun r=>.ms 0,fun r=>[some ⟨130,6,r.map ZF⟩],ZiV n l⟩
end Go.Proofs.YtmcdjilbkmhfoaaGreat
namespace Go.Proofs.YtmcdjilbkmhfoaaGreat
set_option maxRecDepth 10000
open Go.RowKit
set_option linter.unusedVariables false
set_option maxHeartbeats 16000000
def ZcL (thing:Int) (y1:List Zk) (s0:Int × (List Zk)):Option ((Int × (List Zk)) ⊕ (List Zk)):=
 cond (decide (s0.1<(y1.length:Int)))
 ((getI y1 s0.1).bind fun y2=>
 cond (decide (y2.thing=thing))
 ((chk (ZQ ((s0.2:List Zk).length+([y2]:List Zk).length) 56)).bind fun _=>
 some (.inl ((w64 (s0.1+1)),((s0.2:List Zk)++[y2]))))
 (some (.inl ((w64 (s0.1+1)),s0.2))))
 (some (.inr s0.2))
instance (thing:Int) (y1:List Zk):ZP (ZcL thing y1):=⟨fun s0=>(.un::.un::vi thing::(U 4 (.ms 0::(U 5 (.ms 1::vi (y1.length:Int)::vi s0.1::(U 13 [])))))),fun s0=>[some ⟨130,6,s0.2.map ZF⟩,some ⟨130,6,y1.map ZF⟩]⟩
def Zen (n:Za) (l:List Zk) (thing:Int):Option (List Zk):=
 (Zc3 n l).bind fun y1=>
 (Zj (ZcL thing y1) NN (0,([]:List Zk))).bind (fun o0=>
 some o0)
instance (n:Za) (l:List Zk) (thing:Int):CT Tryz.prog (Zen n l thing):=⟨153,[.ag (Zr n),.sl (l.map ZF),vi thing],[],fun r=>.ms 0,fun r=>[some ⟨130,6,r.map ZF⟩],fun H=>by replace H:=H0 H; unfold Zen at H; exact Zh Tryz.func153 rfl Tryz.ntmps153 Tryz.results153 fun Q hQ hQn=>wk3⟩
def Ze4 (n:Za) (s:Zk):Option ByteArray:=
 (Zbd n s).bind fun y1=>
 cond (!y1)
 (some (⟨#[]⟩))
 (cond (decide (s.kind=3))
 ((getI n.legs s.trip.leg).bind fun y2=>
 some y2.from_)
 (cond (decide (s.kind=2))
 ((getI n.legs s.trip.leg).bind fun y3=>
 some y3.to_)
 (some s.place)))
instance (n:Za) (s:Zk):CT Tryz.prog (Ze4 n s):=⟨255,[.ag (Zr n),.ag (ZF s)],[],fun r=>vs r,fun r=>[],fun H=>by replace H:=H0 H; unfold Ze4 at H; exact Zh Tryz.func255 rfl Tryz.ntmps255 Tryz.results255 fun Q hQ hQn=>wk3⟩
def Zu (n:Za) (s:Zk):Option Ze1:=
 (Zbd n s).bind fun y1=>
 cond (!y1)
 (some (⟨⟨#[]⟩,0⟩:Ze1))
 (cond (decide (s.kind=3))
 ((getI n.legs s.trip.leg).bind fun y2=>
 (ZO n s.trip).bind fun y3=>
 some (⟨y2.to_,y3⟩:Ze1))
 ((Ze4 n s).bind fun y4=>
 some (⟨y4,s.at_⟩:Ze1)))
instance (n:Za) (s:Zk):CT Tryz.prog (Zu n s):=⟨223,[.ag (Zr n),.ag (ZF s)],[],fun r=>.ag [vs r.place,vi r.at_],fun r=>[],fun H=>by replace H:=H0 H; unfold Zu at H; exact Zh Tryz.func223 rfl Tryz.ntmps223 Tryz.results223 fun Q hQ hQn=>wk3⟩
def Zt (n:Za) (s:Zk):Option Ze1:=
 (Zbd n s).bind fun y1=>
 cond (!y1)
 (some (⟨⟨#[]⟩,0⟩:Ze1))
 (cond (decide (s.kind=3))
 ((getI n.legs s.trip.leg).bind fun y2=>
 (ZH n s.trip).bind fun y3=>
 some (⟨y2.from_,y3⟩:Ze1))
 (cond (decide (s.kind=2))
 ((getI n.legs s.trip.leg).bind fun y4=>
 (ZH n s.trip).bind fun y5=>
 some (⟨y4.from_,y5⟩:Ze1))
 (some (⟨s.place,s.at_⟩:Ze1))))
instance (n:Za) (s:Zk):CT Tryz.prog (Zt n s):=⟨224,[.ag (Zr n),.ag (ZF s)],[],fun r=>.ag [vs r.place,vi r.at_],fun r=>[],fun H=>by replace H:=H0 H; unfold Zt at H; exact Zh Tryz.func224 rfl Tryz.ntmps224 Tryz.results224 fun Q hQ hQn=>wk3⟩
def Zaj (n:Za) (a:Zk) (b:Zk):Option Bool:=
 (Zbd n a).bind fun y1=>
 cond (!y1)
 (some false)
 ((Zbd n b).bind fun y2=>
 cond (!y2)
 (some false)
 (cond (!decide (a.thing=b.thing))
 (some false)
 ((ZbM a b).bind fun y3=>
 cond (decide (0≤y3))
 (some false)
 (cond (decide (a.kind=4))
 (some false)
 (cond (decide (b.kind=2))
 (cond (decide (a.kind=3))
 (cond (decide (a.trip=b.trip))
 (some true)
 ((Zu n a).bind fun y4=>
 (Zt n b).bind fun y5=>
 (ZaA n y4 y5).bind fun y6=>
 some y6))
 ((Zu n a).bind fun y7=>
 (Zt n b).bind fun y8=>
 (ZaA n y7 y8).bind fun y9=>
 some y9))
 ((Zu n a).bind fun y10=>
 (Zt n b).bind fun y11=>
 (ZaA n y10 y11).bind fun y12=>
 some y12))))))
instance (n:Za) (a:Zk) (b:Zk):CT Tryz.prog (Zaj n a b):=⟨154,[.ag (Zr n),.ag (ZF a),.ag (ZF b)],[],fun r=>vb r,fun r=>[],fun H=>by replace H:=H0 H; unfold Zaj at H; exact Zh Tryz.func154 rfl Tryz.ntmps154 Tryz.results154 fun Q hQ hQn=>wk3⟩
def ZgK (n:Za) (y1:(List Zk)) (s0:Int × (List Int)):Option ((Int × (List Int)) ⊕ (List Int)):=
 cond (decide (s0.1<(y1.length:Int)))
 ((getI y1 (w64 (s0.1-1))).bind fun y2=>
 (getI y1 s0.1).bind fun y3=>
 (Zaj n y2 y3).bind fun y4=>
 cond (!y4)
 ((chk (ZQ ((s0.2:List Int).length+([s0.1]:List Int).length) 8)).bind fun _=>
 some (.inl ((w64 (s0.1+1)),((s0.2:List Int)++[s0.1]))))
 (some (.inl ((w64 (s0.1+1)),s0.2))))
 (some (.inr s0.2))
instance (n:Za) (y1:(List Zk)):ZP (ZgK n y1):=⟨fun s0=>(U 3 (.be 0 0 0::(U 3 (.ms 1::.ms 2::vi s0.1::(U 28 []))))),fun s0=>[some ⟨35,3,[[.sl (n.legs.map cLeg),.sl (n.off.map cInt),vi n.change]]⟩,some ⟨3,1,s0.2.map cInt⟩,some ⟨130,6,y1.map ZF⟩]⟩
def Zgz (n:Za) (l:List Zk) (thing:Int):Option (List Int):=
 (Zen n l thing).bind fun y1=>
 (Zj (ZgK n y1) NN (1,([]:List Int))).bind (fun o0=>
 some o0)
instance (n:Za) (l:List Zk) (thing:Int):CT Tryz.prog (Zgz n l thing):=⟨61,[.ag (Zr n),.sl (l.map ZF),vi thing],[],fun r=>.ms 0,fun r=>[some ⟨3,1,r.map cInt⟩],fun H=>by replace H:=H0 H; unfold Zgz at H; exact Zh Tryz.func61 rfl Tryz.ntmps61 Tryz.results61 fun Q hQ hQn=>wk3⟩
def ZcK (n:Za) (y1:(List Zk)) (s0:Int × (List Zk)):Option ((Int × (List Zk)) ⊕ (List Zk)):=
 cond (decide (s0.1<(y1.length:Int)))
 ((getI y1 s0.1).bind fun y2=>
 cond (decide ((s0.2.length:Int)=0))
 ((chk (ZQ ((s0.2:List Zk).length+([y2]:List Zk).length) 56)).bind fun _=>
 some (.inl ((w64 (s0.1+1)),((s0.2:List Zk)++[y2]))))
 ((getI s0.2 (w64 ((s0.2.length:Int)-1))).bind fun y3=>
 (Zaj n y3 y2).bind fun y4=>
 cond y4
 ((chk (ZQ ((s0.2:List Zk).length+([y2]:List Zk).length) 56)).bind fun _=>
 some (.inl ((w64 (s0.1+1)),((s0.2:List Zk)++[y2]))))
 (some (.inl ((w64 (s0.1+1)),s0.2)))))
 (some (.inr s0.2))
instance (n:Za) (y1:(List Zk)):ZP (ZcK n y1):=⟨fun s0=>(U 3 (.be 0 0 0::(U 3 (.ms 1::(U 6 (.ms 2::vi (y1.length:Int)::vi s0.1::(U 23 []))))))),fun s0=>[some ⟨35,3,[[.sl (n.legs.map cLeg),.sl (n.off.map cInt),vi n.change]]⟩,some ⟨130,6,s0.2.map ZF⟩,some ⟨130,6,y1.map ZF⟩]⟩
def Zel (n:Za) (l:List Zk) (thing:Int):Option (List Zk):=
 (Zen n l thing).bind fun y1=>
 (Zj (ZcK n y1) NN (0,([]:List Zk))).bind (fun o0=>
 some o0)
instance (n:Za) (l:List Zk) (thing:Int):CT Tryz.prog (Zel n l thing):=⟨210,[.ag (Zr n),.sl (l.map ZF),vi thing],[],fun r=>.ms 0,fun r=>[some ⟨130,6,r.map ZF⟩],fun H=>by replace H:=H0 H; unfold Zel at H; exact Zh Tryz.func210 rfl Tryz.ntmps210 Tryz.results210 fun Q hQ hQn=>wk3⟩
set_option linter.unusedSimpArgs false
structure ZjK (n:Za) (l:List Zk):Prop where
 len:l.length≤200
 ok:∀ s∈l,okS1 n s=true
 nodup:l.Nodup
def ofT (th:Int) (l:List Zk):List Zk:=l.filter fun s=>decide (s.thing=th)
def ZjH (n:Za) (T:List Zk):Prop:=∀ (i:Nat) (a b:Zk),T[i]?=some a→T[i+1]?=some b→Zaj n a b=some true
theorem ZgN (th:Int) (l l':List Zk):ofT th (l++l')=ofT th l++ofT th l':=by unfold ofT; exact List.filter_append _ _
theorem Ziv {th:Int} {l:List Zk} (h:∀ s∈l,¬ s.thing=th):ofT th l=[]:=by
 unfold ofT
 rw [List.filter_eq_nil_iff]
 exact fun s hs=>by simpa using h s hs
theorem ZwC {th:Int} {l:List Zk} (h:∀ s∈l,s.thing=th):ofT th l=l:=by
 unfold ofT
 rw [List.filter_eq_self]
 exact fun s hs=>by simpa using h s hs
theorem Zh7 {f:Nat→Zf→List Zk} (hf:∀ j o,∀ s∈f j o,s.thing=((j+1:Nat):Int)):∀ (os:List Zf) (b i:Nat) (o:Zf),os[i]?=some o→ofT ((b+i+1:Nat):Int) (Ze0 f b os)=f (b+i) o
 | [],b,i,o,h=>by simp at h
 | x::os,b,0,o,h=>by
  obtain rfl:x=o:=by simpa using h
  unfold Ze0
  rw [ZgN,ZwC (fun s hs=>hf b x s hs),Ziv (l:=Ze0 f (b+1) os) (fun s hs=>?_),List.append_nil]
  ·rfl
  ·obtain ⟨j,o',_,h2⟩:=ZfK hs
   rw [hf _ _ s h2]
   omega
 | x::os,b,i+1,o,h=>by
  have h':os[i]?=some o:=by simpa using h
  unfold Ze0
  rw [ZgN,Ziv (l:=f b x) (fun s hs=>by rw [hf b x s hs]; omega),List.nil_append]
  have:=Zh7 hf os (b+1) i o h'
  rw [show b+(i+1)=b+1+i by omega]
  exact this
theorem Zj5 {n:Za} {a:Int}:∀ (j:Nat) (o:Zf),∀ s∈Zca n a j o,s.thing=((j+1:Nat):Int):=fun j o s hs=>by
 unfold Zca at hs
 split at hs
 ·split at hs
  ·rcases List.mem_cons.1 hs with rfl | hs
   ·rfl
   ·split at hs
    ·obtain rfl:=List.mem_singleton.1 hs; rfl
    ·cases hs
  ·cases hs
 ·cases hs
theorem Zko {n:Za} {a:Int}:∀ (j:Nat) (o:Zf),∀ s∈Zfu n a j o,s.thing=((j+1:Nat):Int):=fun j o s hs=>by
 unfold Zfu at hs
 split at hs
 ·split at hs
  ·obtain rfl:=List.mem_singleton.1 hs; rfl
  ·cases hs
 ·cases hs
structure ZxB (w:Zd):Prop where
 skip:w.skip=[]
 made:w.made=(w.scans.length:Int)
 own:∀ (i:Nat) (o:Zf),w.orders[i]?=some o→ofT ((i+1:Nat):Int) w.scans=Zdr w.network i o
def sumI (f:Nat→Zf→Nat):Nat→List Zf→Nat
 | _,[]=>0
 | i,o::os=>f i o+sumI f (i+1) os
structure ZyY (w:Zd):Prop where
 seen:ZxB w
 len:w.scans.length=sumI (fun j o=>(Zdr w.network j o).length) 0 w.orders
 few:w.orders.length≤4
 way:∀ o∈w.orders,o.way.length≤20
 thing:∀ s∈w.scans,s.thing≤(w.orders.length:Int)
def Zbu (at3_:Int) (y1:(List Zk)) (s0:Int):Option (Int ⊕ (Unit ⊕ (Zk × Bool))):=
 cond (decide (0≤s0))
 ((getI y1 s0).bind fun y2=>
 cond (decide (y2.at_≤at3_))
 ((getI y1 s0).bind fun y3=>
 some (.inr (.inr (y3,true))))
 (some (.inl (w64 (s0-1)))))
 (some (.inr (.inl ())))
instance (at3_:Int) (y1:(List Zk)):ZP (Zbu at3_ y1):=⟨fun s0=>(U 3 (vi at3_::(U 4 (.be 0 0 0::.un::.ms 1::vi s0::(U 23 []))))),fun s0=>[some ⟨130,6,[[vi 0,vi 0,vi 0,vs (⟨#[]⟩),vi 0,vi 0]]⟩,some ⟨130,6,y1.map ZF⟩]⟩
def Za9 (n:Za) (l:List Zk) (thing:Int) (at3_:Int):Option (Zk × Bool):=
 (Zel n l thing).bind fun y1=>
 (Zj (Zbu at3_ y1) NN (w64 ((y1.length:Int)-1))).bind (ZY (fun o0=>
 some ((⟨0,0,0,⟨#[]⟩,(⟨0,0⟩:Ze)⟩:Zk),false)) (fun r=>some r))
instance (n:Za) (l:List Zk) (thing:Int) (at3_:Int):CT Tryz.prog (Za9 n l thing at3_):=⟨144,[.ag (Zr n),.sl (l.map ZF),vi thing,vi at3_],[],fun r=>.tu [.ag [vi r.1.thing,vi r.1.at_,vi r.1.kind,vs r.1.place,vi r.1.trip.leg,vi r.1.trip.day],vb r.2],fun r=>[],fun H=>by replace H:=H0 H; unfold Za9 at H; exact Zh Tryz.func144 rfl Tryz.ntmps144 Tryz.results144 fun Q hQ hQn=>wk3⟩
def Zch (at3_:Int) (y1:(List Zk)) (s0:Int):Option (Int ⊕ (Unit ⊕ (Zk × Bool))):=
 cond (decide (s0<(y1.length:Int)))
 ((getI y1 s0).bind fun y2=>
 cond (decide (at3_<y2.at_))
 (some (.inr (.inr (y2,true))))
 (some (.inl (w64 (s0+1)))))
 (some (.inr (.inl ())))
instance (at3_:Int) (y1:(List Zk)):ZP (Zch at3_ y1):=⟨fun s0=>(U 3 (vi at3_::(U 4 (.be 0 0 0::(U 6 (.ms 1::vi (y1.length:Int)::vi s0::(U 10 []))))))),fun s0=>[some ⟨130,6,[[vi 0,vi 0,vi 0,vs (⟨#[]⟩),vi 0,vi 0]]⟩,some ⟨130,6,y1.map ZF⟩]⟩
def Zex (n:Za) (l:List Zk) (thing:Int) (at3_:Int):Option (Zk × Bool):=
 (Zel n l thing).bind fun y1=>
 (Zj (Zch at3_ y1) NN 0).bind (ZY (fun o0=>
 some ((⟨0,0,0,⟨#[]⟩,(⟨0,0⟩:Ze)⟩:Zk),false)) (fun r=>some r))
instance (n:Za) (l:List Zk) (thing:Int) (at3_:Int):CT Tryz.prog (Zex n l thing at3_):=⟨225,[.ag (Zr n),.sl (l.map ZF),vi thing,vi at3_],[],fun r=>.tu [.ag [vi r.1.thing,vi r.1.at_,vi r.1.kind,vs r.1.place,vi r.1.trip.leg,vi r.1.trip.day],vb r.2],fun r=>[],fun H=>by replace H:=H0 H; unfold Zex at H; exact Zh Tryz.func225 rfl Tryz.ntmps225 Tryz.results225 fun Q hQ hQn=>wk3⟩
def ZaR (n:Za) (l:List Zk) (thing:Int) (at3_:Int):Option Zai:=
 (Za9 n l thing at3_).bind fun y1=>
 (Zex n l thing at3_).bind fun y2=>
 cond (!y1.2)
 (some (⟨n,at3_,false,⟨#[]⟩,(⟨0,0⟩:Ze),false,false,(⟨⟨#[]⟩,0⟩:Ze1),(⟨⟨#[]⟩,0⟩:Ze1),false⟩:Zai))
 (cond (decide (y1.1.kind=4))
 (some (⟨n,at3_,false,⟨#[]⟩,(⟨0,0⟩:Ze),false,false,(⟨⟨#[]⟩,0⟩:Ze1),(⟨⟨#[]⟩,0⟩:Ze1),false⟩:Zai))
 (cond y2.2
 (cond (decide (y2.1.kind=2))
 ((ZH n y2.1.trip).bind fun y3=>
 cond (decide (y3≤at3_))
 ((ZO n y2.1.trip).bind fun y4=>
 (getI n.legs y2.1.trip.leg).bind fun y5=>
 some (⟨n,at3_,true,y5.to_,y2.1.trip,(decide (at3_<y4)),false,(⟨⟨#[]⟩,0⟩:Ze1),(⟨⟨#[]⟩,0⟩:Ze1),false⟩:Zai))
 (cond (decide (y1.1.kind=3))
 ((ZO n y1.1.trip).bind fun y6=>
 cond (decide (at3_<y6))
 ((ZH n y1.1.trip).bind fun y7=>
 (getI n.legs y1.1.trip.leg).bind fun y8=>
 some (⟨n,at3_,true,y8.from_,y1.1.trip,(decide (y7≤at3_)),false,(⟨⟨#[]⟩,0⟩:Ze1),(⟨⟨#[]⟩,0⟩:Ze1),false⟩:Zai))
 ((Zu n y1.1).bind fun y9=>
 (Zt n y2.1).bind fun y10=>
 some (⟨n,at3_,false,⟨#[]⟩,(⟨0,0⟩:Ze),false,true,y9,y10,y2.2⟩:Zai)))
 ((Zu n y1.1).bind fun y11=>
 (Zt n y2.1).bind fun y12=>
 some (⟨n,at3_,false,⟨#[]⟩,(⟨0,0⟩:Ze),false,true,y11,y12,y2.2⟩:Zai))))
 (cond (decide (y1.1.kind=3))
 ((ZO n y1.1.trip).bind fun y13=>
 cond (decide (at3_<y13))
 ((ZH n y1.1.trip).bind fun y14=>
 (getI n.legs y1.1.trip.leg).bind fun y15=>
 some (⟨n,at3_,true,y15.from_,y1.1.trip,(decide (y14≤at3_)),false,(⟨⟨#[]⟩,0⟩:Ze1),(⟨⟨#[]⟩,0⟩:Ze1),false⟩:Zai))
 ((Zu n y1.1).bind fun y16=>
 (Zt n y2.1).bind fun y17=>
 some (⟨n,at3_,false,⟨#[]⟩,(⟨0,0⟩:Ze),false,true,y16,y17,y2.2⟩:Zai)))
 ((Zu n y1.1).bind fun y18=>
 (Zt n y2.1).bind fun y19=>
 some (⟨n,at3_,false,⟨#[]⟩,(⟨0,0⟩:Ze),false,true,y18,y19,y2.2⟩:Zai))))
 (cond (decide (y1.1.kind=3))
 ((ZO n y1.1.trip).bind fun y20=>
 cond (decide (at3_<y20))
 ((ZH n y1.1.trip).bind fun y21=>
 (getI n.legs y1.1.trip.leg).bind fun y22=>
 some (⟨n,at3_,true,y22.from_,y1.1.trip,(decide (y21≤at3_)),false,(⟨⟨#[]⟩,0⟩:Ze1),(⟨⟨#[]⟩,0⟩:Ze1),false⟩:Zai))
 ((Zu n y1.1).bind fun y23=>
 (Zt n y2.1).bind fun y24=>
 some (⟨n,at3_,false,⟨#[]⟩,(⟨0,0⟩:Ze),false,true,y23,y24,y2.2⟩:Zai)))
 ((Zu n y1.1).bind fun y25=>
 (Zt n y2.1).bind fun y26=>
 some (⟨n,at3_,false,⟨#[]⟩,(⟨0,0⟩:Ze),false,true,y25,y26,y2.2⟩:Zai)))))
instance (n:Za) (l:List Zk) (thing:Int) (at3_:Int):CT Tryz.prog (ZaR n l thing at3_):=⟨155,[.ag (Zr n),.sl (l.map ZF),vi thing,vi at3_],[],fun r=>.ag [.sl (r.n.legs.map cLeg),.sl (r.n.off.map cInt),vi r.n.change,vi r.at_,vb r.known,vs r.place,vi r.ride.leg,vi r.ride.day,vb r.rides,vb r.free,vs r.from_.place,vi r.from_.at_,vs r.to_.place,vi r.to_.at_,vb r.more],fun r=>[],fun H=>by replace H:=H0 H; unfold ZaR at H; exact Zh Tryz.func155 rfl Tryz.ntmps155 Tryz.results155 fun Q hQ hQn=>wk3⟩
end Go.Proofs.YtmcdjilbkmhfoaaGreat
