/- A part of the proof of the statement in the last file of this claim: texts on the language of the program and on its functions. No condition. -/
import Derived.Test.YtmcdjilbkmhfoaaGreatCRetryOrders4
import Derived.Test.YtmcdjilbkmhfoaaGreatCRetryOrders5
import Derived.Test.YtmcdjilbkmhfoaaGreatCRetryOrders8
import Derived.Test.YtmcdjilbkmhfoaaGreatCRetryOrders7
import Derived.Test.YtmcdjilbkmhfoaaGreatCRetryOrders10
import Derived.Shelf.GgSortMore.Stable
import Derived.Test.YtmcdjilbkmhfoaaGreatCRetryOrders9
set_option linter.unusedVariables false
set_option linter.unusedSimpArgs false
namespace Go.Proofs.YtmcdjilbkmhfoaaGreat
set_option maxRecDepth 10000
open Go.RowKit
set_option linter.unusedVariables false
set_option linter.unusedSimpArgs false
class Zhe {α β:Type} [Enc β] (c:α→List PV) (g:α→β):Prop where
 len:∀ x,(c x).length=Enc.k β
 at_:∀ x (j:Nat) (p:PV),(c x)[j]?=some p→∃ u,(Enc.cells (g x))[j]?=some u∧p=.v u
theorem ZqE {α β:Type} [Enc β] {c:α→List PV} (g:α→β) [hf:Zhe c g] {w:World} {S:Nat→Prop} {xs:List α} {x:Value} (hsz:∀ b,S b→b<w.heap.size) (h:RepC w S (.sl (xs.map c)) x):
 ∃ A n,x=.slice A xs.length n∧xs.length≤n∧(xs≠[]→n≤maxLen)∧Rd w w.heap.size A (xs.map g):=by
 generalize hq:PV.sl (xs.map c)=q at h
 cases h with
 | v x h=>cases hq
 | ud=>cases hq
 | un=>cases hq
 | rp=>cases hq
 | fn=>cases hq
 | nil A n=>
  have:xs=[]:=by simpa using hq
  exact ⟨A,n,by rw [this]; rfl,by rw [this]; simp,fun h=>absurd this h,by rw [this]; exact Rd.nil_⟩
 | sl es b off k n u hS hkp hnc hm hes hcc h1 hrr=>
  obtain rfl:xs.map c=es:=by simpa using hq
  refine ⟨_,n,by simp,by simpa using hnc,fun _=>hm,fun hne=>⟨b,off,rfl,hsz b hS,fun t u' hu'=>?_⟩⟩
  have hne':xs≠[]:=fun e=>hne (by rw [e]; rfl)
  have hpos:0<xs.length:=List.length_pos_iff.2 hne'
  have hk1:k=Enc.k β:=((hes 0 (c xs[0]) (by simp [hpos])).symm).trans (hf.len _)
  subst hk1
  have hkp':0<Enc.k β:=hkp
  have ht:=(List.getElem?_eq_some_iff.1 hu').1
  rw [Zds,List.length_map] at ht
  have hi:t / Enc.k β<xs.length:=by rw [Nat.div_lt_iff_lt_mul hkp']; exact ht
  have hj:=Nat.mod_lt t hkp'
  have e0:t / Enc.k β*Enc.k β+t % Enc.k β=t:=by rw [Nat.mul_comm]; exact Nat.div_add_mod t _
  have e1:(xs.map c)[t / Enc.k β]?=some (c xs[t / Enc.k β]):=by simp [hi]
  have e2:(c xs[t / Enc.k β])[t % Enc.k β]?=some ((c xs[t / Enc.k β])[t % Enc.k β]'(by rw [hf.len]; exact hj)):=List.getElem?_eq_getElem _
  obtain ⟨v,hv,hp⟩:=hf.at_ _ _ _ e2
  have hfl:=Zfa (xs:=xs.map g) (i:=t / Enc.k β) (x:=g xs[t / Enc.k β]) (by simp [hi]) hv
  rw [e0,hu'] at hfl
  obtain rfl:=Option.some.inj hfl
  have hc:=hcc _ _ _ _ e1 e2
  have hz:=hrr _ _ _ _ e1 e2
  rw [hp] at hz
  have hz':u (t / Enc.k β) (t % Enc.k β)=u':=by
   generalize u (t / Enc.k β) (t % Enc.k β)=z at hz
   cases hz with
   | v _ _=>rfl
  rw [hz'] at hc
  rw [← e0,← Nat.add_assoc]
  exact hc
theorem ZrV {vs:Array Value} {x0 x1 x2:Value} (h:vs.size=3) (h0:vs[0]?=some x0) (h1:vs[1]?=some x1) (h2:vs[2]?=some x2):vs=#[x0,x1,x2]:=by
 apply Array.ext (by simp [h])
 intro i hi h3
 have a0:=(Array.getElem?_eq_some_iff.1 h0).2
 have a1:=(Array.getElem?_eq_some_iff.1 h1).2
 have a2:=(Array.getElem?_eq_some_iff.1 h2).2
 match i,hi with
 | 0,_=>simpa using a0
 | 1,_=>simpa using a1
 | 2,_=>simpa using a2
 | i+3,hi=>omega
theorem Zob {w:World} {E:Env} {a x:Value} (h:Rep w E (.v a) x):x=a:=h.v_inv.1
instance:Zhe cInt (id:Int→Int):=⟨fun x=>rfl,fun x j p h=>by
 cases j with
 | zero=>obtain rfl:vi x=p:=by simpa using h
         exact ⟨_,rfl,rfl⟩
 | succ j=>simp [cInt] at h⟩
set_option maxHeartbeats 16000000
def Zdt (i:Int) (j:Int) (c0_:List YBooking):Option Bool:=
 (getI c0_ i).bind fun y1=>
 (getI c0_ j).bind fun y2=>
 (Zao y1 y2).bind fun y3=>
 some (decide (y3<0))
instance (i:Int) (j:Int) (c0_:List YBooking):CT Tryz.prog (Zdt i j c0_):=⟨201,[vi i,vi j,.rp [.sl (c0_.map cBooking)]],[],fun r=>vb r,fun r=>[],fun H=>by replace H:=H0 H; unfold Zdt at H; exact callM_of Tryz.func201 rfl Tryz.ntmps201 Tryz.results201 fun Q hQ hQn=>wk3⟩
end Go.Proofs.YtmcdjilbkmhfoaaGreat
namespace Go.Proofs.YtmcdjilbkmhfoaaGreat
set_option maxRecDepth 10000
open Go.RowKit Go.Lib Go.Sort
set_option linter.unusedVariables false
set_option linter.unusedSimpArgs false
set_option maxRecDepth 100000
set_option maxHeartbeats 4000000
instance:Enc YBooking where
 cells x:=[I x.thing,I x.trip.leg,I x.trip.day,I x.weight]
 k:=4
 len _:=rfl
 pos:=by decide
 one:=by simp [Value.oneCell',I]
instance:Enc YTrip where
 cells x:=[I x.leg,I x.day]
 k:=2
 len _:=rfl
 pos:=by decide
 one:=by simp [Value.oneCell',I]
instance:Zhe cBooking (id:YBooking→YBooking):=⟨fun x=>rfl,fun x j p h=>by
 match j with
 | 0=>obtain rfl:_=p:=Option.some.inj h
      exact ⟨_,rfl,rfl⟩
 | 1=>obtain rfl:_=p:=Option.some.inj h
      exact ⟨_,rfl,rfl⟩
 | 2=>obtain rfl:_=p:=Option.some.inj h
      exact ⟨_,rfl,rfl⟩
 | 3=>obtain rfl:_=p:=Option.some.inj h
      exact ⟨_,rfl,rfl⟩
 | j+4=>simp [cBooking] at h⟩
instance:Zhe cTrip (id:YTrip→YTrip):=⟨fun x=>rfl,fun x j p h=>by
 match j with
 | 0=>obtain rfl:_=p:=Option.some.inj h
      exact ⟨_,rfl,rfl⟩
 | 1=>obtain rfl:_=p:=Option.some.inj h
      exact ⟨_,rfl,rfl⟩
 | j+2=>simp [cTrip] at h⟩
instance:Inhabited YBooking:=⟨⟨0,⟨0,0⟩,0⟩⟩
theorem ZiB (a b:YBooking):befB a b=true↔a.trip.day<b.trip.day∨(a.trip.day=b.trip.day∧(a.trip.leg<b.trip.leg∨(a.trip.leg=b.trip.leg∧a.thing<b.thing))):=by
 unfold befB
 repeat' split
 all_goals simp only [decide_eq_true_eq]
 all_goals omega
theorem ZiC (a b:YBooking):befB a b=false↔¬ (a.trip.day<b.trip.day∨(a.trip.day=b.trip.day∧(a.trip.leg<b.trip.leg∨(a.trip.leg=b.trip.leg∧a.thing<b.thing)))):=by
 rw [← ZiB]; simp
theorem Zi5:SWO befB:=⟨fun x=>(ZiC _ _).2 (by omega),fun x y z h1 h2=>(ZiB _ _).2 (by have:=(ZiB _ _).1 h1; have:=(ZiB _ _).1 h2; omega),fun x y z h1 h2=>(ZiC _ _).2 (by have:=(ZiC _ _).1 h1; have:=(ZiC _ _).1 h2; omega)⟩
theorem ZlP {b:Nat}:¬ own0 (fun _=>none) b:=by rintro ⟨l,B,h,_⟩; cases h
theorem CallM.valT {P:Program} {f:FuncId} {args:List PV} {val:Value} (h:CallM P f args [] (.v val) []) {w:World} (ht:Tab w (own0 fun _=>none)) {vs:Array Value} (hl:vs.size=args.length) (ha:∀ (i:Nat) (p:PV),args[i]?=some p→∃ x,vs[i]?=some x∧Rep w (E1 (fun b=>b<w.heap.size) (fun _=>none) 0) p x):
 Calls P f vs w fun e w'=>e=.returned val∧Up w w':=by
 have hok:Ok w (own0 fun _=>none) (E1 (fun b=>b<w.heap.size) (fun _=>none) 0) w []:=
  ⟨UpO.refl _ _,fun b h=>h,fun l B h=>(by cases h),fun l l' B B' h=>(by cases h),fun l h=>absurd h (Nat.not_lt_zero l),fun l B h=>(by cases h),fun l mb h=>(by simp at h),fun l B h=>(by cases h),ht,fun _ _ h=>h.elim⟩
 refine (h (fun b=>b<w.heap.size) (fun _=>none) w vs (fun _ _=>False) hok hl ha).mono ?_
 rintro e w' ⟨v,E',rfl,hk,_,_,_,hr⟩
 obtain ⟨rfl,_⟩:=hr.v_inv
 exact ⟨rfl,hk.up.os,hk.up.tape,hk.up.output,hk.up.size,fun b hb=>hk.up.block b hb ZlP⟩
theorem Zop {w w':World} {O O':Nat→Prop} (h:Tab w O) (hu:UpO O' w w') (hO:∀ b,b<w.heap.size→O' b→O b):Tab w' (own0 fun _=>none):=by
 obtain ⟨T,h1,h2⟩:=h
 exact ⟨T,fun b hb=>⟨Nat.lt_of_lt_of_le (h1 b hb).1 hu.size,ZlP⟩,fun w'' hw''=>h2 w'' fun b hb=>(hw'' b hb).trans (hu.block b (h1 b hb).1 fun h=>(h1 b hb).2 (hO b (h1 b hb).1 h))⟩
theorem Zn6 {α β:Type} [Enc β] {c:α→List PV} (g:α→β) [hf:Zhe c g] {w:World} {A:Option Addr} {n:Nat} {xs:List α} (h:Rd w w.heap.size A (xs.map g)) (hn:xs.length≤n) (hm:n≤maxLen):RepC w (fun b=>b<w.heap.size) (.sl (xs.map c)) (.slice A xs.length n):=by
 by_cases h0:xs=[]
 ·subst h0; exact .nil _ _
 obtain ⟨b,off,rfl,hb,hc⟩:=h (by simpa using h0)
 have hlen:(xs.map c).length=xs.length:=by simp
 have key:∀ (i:Nat) (cs:List PV) (j:Nat) (p:PV),(xs.map c)[i]?=some cs→cs[j]?=some p→∃ u,w.cell? ⟨b,off+i*Enc.k β+j,none⟩=some u∧u.oneCell'=true∧p=.v u:=by
  intro i cs j p hi hj
  rw [List.getElem?_map] at hi
  obtain ⟨x,hx,rfl⟩:=Option.map_eq_some_iff.1 hi
  obtain ⟨u,hu,hp⟩:=hf.at_ x j p hj
  have hfl:=Zfa (xs:=xs.map g) (i:=i) (x:=g x) (by rw [List.getElem?_map,hx]; rfl) hu
  exact ⟨u,by rw [Nat.add_assoc]; exact hc _ u hfl,Enc.one _ u (List.mem_of_getElem? hu),hp⟩
 rw [← hlen]
 exact .sl _ b off (Enc.k β) n (fun i j=>(w.cell? ⟨b,off+i*Enc.k β+j,none⟩).getD .nilIface) hb Enc.pos (by rw [hlen]; exact hn) hm
  (fun i cs hi=>by
   rw [List.getElem?_map] at hi
   obtain ⟨x,_,rfl⟩:=Option.map_eq_some_iff.1 hi
   exact hf.len x)
  (fun i cs j p hi hj=>by obtain ⟨u,x1,_⟩:=key i cs j p hi hj; rw [x1]; rfl)
  (fun i cs j p hi hj=>by obtain ⟨u,x1,x2,_⟩:=key i cs j p hi hj; rw [x1]; exact x2)
  (fun i cs j p hi hj=>by obtain ⟨u,x1,x2,rfl⟩:=key i cs j p hi hj; rw [x1]; exact .v u x2)
section
variable {β:Type} [Enc β] [Inhabited β]
theorem Zio (d:Array β):(flatK Enc.cells (Enc.k β) d).toList=flat d.toList:=by
 apply List.ext_getElem?
 intro t
 have hk:0<Enc.k β:=Enc.pos
 rcases Nat.lt_or_ge t (d.size*Enc.k β) with h | h
 ·have h1:t<(flatK Enc.cells (Enc.k β) d).size:=by rw [size_flatK]; exact h
  have hi:t / Enc.k β<d.size:=by rw [Nat.div_lt_iff_lt_mul hk]; exact h
  have hj:=Nat.mod_lt t hk
  have e0:t / Enc.k β*Enc.k β+t % Enc.k β=t:=by rw [Nat.mul_comm]; exact Nat.div_add_mod t _
  have hc:(Enc.cells d[t / Enc.k β]!)[t % Enc.k β]?=some ((Enc.cells d[t / Enc.k β]!)[t % Enc.k β]'(by rw [Enc.len]; exact hj)):=List.getElem?_eq_getElem _
  have hf:=Zfa (xs:=d.toList) (i:=t / Enc.k β) (x:=d[t / Enc.k β]!) (by rw [Array.getElem?_toList,getElem!_pos d _ hi]; exact Array.getElem?_eq_getElem hi) hc
  rw [e0] at hf
  rw [hf,Array.getElem?_toList,Array.getElem?_eq_getElem h1,← getElem!_pos,get_flatK _ _ _ _ h]
  rw [getElem!_pos _ _ (by rw [Enc.len]; exact hj)]
 ·rw [List.getElem?_eq_none (by rw [Array.length_toList,size_flatK]; exact h),List.getElem?_eq_none (by rw [Zds,Array.length_toList]; exact h)]
theorem Zrq {w:World} {B E:Nat} {v:Value} {xs:List β} (h:Own w B E v xs) (h2:0<xs.length):
 ∃ g c,v=.slice (some ⟨g,0,none⟩) xs.length c∧B≤g∧xs.length≤c∧c≤maxLen∧SU (Enc.cells (α:=β)) (Enc.k β) g E (c*Enc.k β) w xs.toArray w:=by
 rcases h.2 with ⟨_,h0⟩ | ⟨g,cap,cur,hv,hB,hg,hnc,hcm,hcs,ht⟩
 ·omega
 refine ⟨g,cap,hv,hB,hnc,hcm,UpO.refl _ _,?_,cur,hg,hcs⟩
 intro t htl
 rw [size_flatK] at htl
 have hfl:(flatK (Enc.cells (α:=β)) (Enc.k β) xs.toArray).toList=flat xs:=by rw [Zio]
 refine ⟨?_,by simp [World.frozen?,hg]⟩
 rw [Nat.zero_add,cell_of_row w g t cur E (0,0) hg]
 have h1:t<(flatK (Enc.cells (α:=β)) (Enc.k β) xs.toArray).size:=by rw [size_flatK]; exact htl
 have h3:(flat xs)[t]?=some (id (flatK (Enc.cells (α:=β)) (Enc.k β) xs.toArray)[t]!):=by
  rw [← hfl,Array.getElem?_toList,getElem!_pos (flatK (Enc.cells (α:=β)) (Enc.k β) xs.toArray) t h1]
  exact Array.getElem?_eq_getElem h1
 rw [← ht,List.getElem?_take] at h3
 split at h3
 ·rw [← Array.getElem?_toList]; exact h3
 ·cases h3
theorem Zp2 {w0 W:World} {B E g c:Nat} {d:Array β} (h:SU (Enc.cells (α:=β)) (Enc.k β) g E (c*Enc.k β) w0 d W) (hB:B≤g) (hn:d.size≤c) (hm:c≤maxLen):Own W B E (.slice (some ⟨g,0,none⟩) d.size c) d.toList:=by
 obtain ⟨cur,hg,hcs⟩:=h.row
 refine ⟨by rw [Zds],.inr ⟨g,c,cur,by rw [Array.length_toList],hB,hg,by rw [Array.length_toList]; exact hn,hm,hcs,?_⟩⟩
 rw [← Zio]
 have hle:d.size*Enc.k β≤c*Enc.k β:=Nat.mul_le_mul_right _ hn
 apply List.ext_getElem?
 intro t
 rw [List.getElem?_take,Array.length_toList]
 split
 ·rename_i ht
  have h1:t<(flatK (Enc.cells (α:=β)) (Enc.k β) d).size:=by rw [size_flatK]; exact ht
  have hh:=(h.hold t h1).1
  rw [Nat.zero_add,cell_of_row W g t cur E (0,0) hg,getElem!_pos (flatK (Enc.cells (α:=β)) (Enc.k β) d) t h1] at hh
  rw [Array.getElem?_toList,Array.getElem?_toList,hh]
  exact (Array.getElem?_eq_getElem h1).symm
 ·rename_i ht
  rw [List.getElem?_eq_none (by rw [Array.length_toList,size_flatK]; omega)]
end
theorem Zoa {w:World} {E:Env} (x:Value) (h:x.oneCell'=true):Rep w E (.v x) x:=.c (.v x h)
theorem Zqr {g c n Bx:Nat} {w0:World} {O:Nat→Prop} (hx:w0.cell? ⟨Bx,0,none⟩=some (.slice (some ⟨g,0,none⟩) n c)) (hBx:Bx<w0.heap.size) (hne:Bx≠g) (hnc:n≤c) (hm:c≤maxLen) (ht:Tab w0 O) (hO:O g):
 ZfS 201 #[.pointer (some ⟨Bx,0,none⟩)] (Enc.cells (α:=YBooking)) 4 befB g 135 (c*4) n w0:=by
 intro d W hS hd i j hi hj
 have hn:d.toList.length=n:=by rw [Array.length_toList,hd]
 have gi:getI d.toList (i:Int)=some d[i]!:=by rw [Zd,Array.getElem?_toList,getElem!_pos d i (by omega)]; exact Array.getElem?_eq_getElem _
 have gj:getI d.toList (j:Int)=some d[j]!:=by rw [Zd,Array.getElem?_toList,getElem!_pos d j (by omega)]; exact Array.getElem?_eq_getElem _
 obtain ⟨v,hv,hvb⟩:=Zjh d[i]! d[j]!
 have H:Zdt (i:Int) (j:Int) d.toList=some (befB d[i]! d[j]!):=by
  unfold Zdt
  rw [gi,Option.bind_some,gj,Option.bind_some,hv,Option.bind_some]
  cases hb:befB d[i]! d[j]! with
  | true=>rw [hb] at hvb; have:=of_decide_eq_false hvb; rw [decide_eq_true (by omega)]
  | false=>rw [hb] at hvb; have:=of_decide_eq_true hvb; rw [decide_eq_false (by omega)]
 have hC:=CT.ok (P:=Tryz.prog) H
 simp only [CT.f,CT.args,CT.m0,CT.res,CT.mem] at hC
 have hcell:W.cell? ⟨Bx,0,none⟩=some (.slice (some ⟨g,0,none⟩) n c):=(hS.oth hBx hne).trans hx
 have hrd:Rd W W.heap.size (some ⟨g,0,none⟩) (d.toList.map id):=by
  have:=(Zp2 (B:=g) hS (Nat.le_refl _) (by omega) hm).rd
  rw [List.map_id]
  exact this
 have hrs:=Zn6 (c:=cBooking) (id:YBooking→YBooking) hrd (n:=c) (by omega) hm
 rw [hn] at hrs
 refine (CallM.valT hC (w:=W) (Zop ht hS.up fun b _ h=>h ▸ hO) rfl fun idx p hp=>?_).mono ?_
 ·match idx with
  | 0=>obtain rfl:_=p:=Option.some.inj hp
       exact ⟨_,rfl,Zoa _ rfl⟩
  | 1=>obtain rfl:_=p:=Option.some.inj hp
       exact ⟨_,rfl,Zoa _ rfl⟩
  | 2=>obtain rfl:_=p:=Option.some.inj hp
       refine ⟨_,rfl,.c (.rp _ Bx 0 (fun _=>.slice (some ⟨g,0,none⟩) n c) (Nat.lt_of_lt_of_le hBx hS.up.size) (fun j p hp=>?_) (fun j p hp=>rfl) fun j p hp=>?_)⟩
       ·match j with
        | 0=>exact hcell
        | j+1=>simp at hp
       ·match j with
        | 0=>obtain rfl:_=p:=Option.some.inj hp
             exact hrs
        | j+1=>simp at hp
  | idx+3=>simp at hp
 ·rintro e w' ⟨rfl,hu⟩
  exact ⟨rfl,hu⟩
end Go.Proofs.YtmcdjilbkmhfoaaGreat
namespace Go.Proofs.YtmcdjilbkmhfoaaGreat
set_option maxRecDepth 10000
open Go.RowKit
set_option linter.unusedVariables false
set_option linter.unusedSimpArgs false
set_option linter.unusedSectionVars false
abbrev leB (a b:YBooking):Prop:=befB b a=false
theorem Zhi {a b:YBooking} (h:befB a b=true):befB b a=false:=Go.Sort.SWO.asymmA Zi5 h
theorem ZmO {l:List YBooking} (hl:l.length≤1048575) (b:YBooking) (hs:l.Pairwise leB):Tot (Zef l b) fun r=>r.length=l.length+1∧r.Perm (l++[b])∧r.Pairwise leB:=by
 unfold Zef
 refine Tot.bind (P:=fun o:Int=>∃ k:Nat,o=(k:Int)∧k≤l.length∧(∀ i (h:i<l.length),i<k→befB l[i] b=true)∧(∀ h:k<l.length,befB l[k] b=false)) ?_ fun o ho=>?_
 ·refine Tot.loop (fun k s=>∃ i:Nat,s=(i:Int)∧i+k=l.length∧∀ j (h:j<l.length),j<i→befB l[j] b=true) (fun k s hs=>?_) NN l.length 0 ⟨0,rfl,by omega,fun j _ h=>by omega⟩ (by unfold NN; omega)
  obtain ⟨i,rfl,hk,hb⟩:=hs
  unfold Zex
  refine Tot.cond (fun hd=>?_) fun hd=>Tot.ret ⟨i,rfl,by omega,fun j h h'=>hb j h h',fun h=>by have:=of_decide_eq_false hd; omega⟩
  have hlt:=of_decide_eq_true hd
  have hw:w64 ((i:Int)+1)=((i+1:Nat):Int):=by rw [Zc (by omega)]; omega
  have hil:i<l.length:=by omega
  have hy:getI l (i:Int)=some l[i]:=by rw [Zd]; exact List.getElem?_eq_getElem hil
  rw [hy,Option.bind_some,Zld,Option.bind_some]
  refine Tot.cond (fun h1=>Tot.ret ⟨k-1,by omega,i+1,hw,by omega,fun j h h'=>?_⟩) fun h1=>Tot.ret ⟨i,rfl,by omega,fun j h h'=>hb j h h',fun _=>h1⟩
  by_cases hji:j=i
  ·subst hji; exact h1
  ·exact hb j h (by omega)
 ·obtain ⟨k,rfl,hk,hbef,hnot⟩:=ho
  have e1:subL l 0 (k:Int)=l.take k:=by unfold subL; simp
  have e2:subL l (k:Int) (l.length:Int)=l.drop k:=by
   unfold subL
   simp only [Int.toNat_natCast]
   rw [List.take_of_length_le (by simp)]
  rw [e1,e2]
  refine Tot.chk (by unfold slOk; exact decide_eq_true (by omega)) ?_
  rw [Zfl (by simp only [List.length_take]; omega),Option.bind_some]
  refine Tot.chk (Zgu (by simp only [List.length_cons,List.length_nil,List.length_take]; omega) (by omega)) (Tot.chk (by unfold slOk; exact decide_eq_true (by omega)) (Tot.chk (Zgu (by simp only [List.length_append,List.length_cons,List.length_nil,List.length_take,List.length_drop]; omega) (by omega)) (Tot.ret ⟨?_,?_,?_⟩)))
  ·simp only [List.length_append,List.length_cons,List.length_nil,List.length_take,List.length_drop]; omega
  ·have h1:(l.take k++[b]++l.drop k).Perm (l.take k++(l.drop k++[b])):=by
    rw [List.append_assoc]
    exact List.Perm.append_left _ List.perm_append_comm
   rw [← List.append_assoc,List.take_append_drop] at h1
   exact h1
  ·have hs1:=List.Pairwise.sublist (List.take_sublist k l) hs
   have hs2:=List.Pairwise.sublist (List.drop_sublist k l) hs
   have hgt:∀ y∈l.drop k,befB y b=false:=fun y hy=>by
    obtain ⟨j,hj,rfl⟩:=List.getElem_of_mem hy
    rw [List.length_drop] at hj
    rw [List.getElem_drop]
    have h0:=hnot (by omega)
    by_cases hj0:j=0
    ·subst hj0; exact h0
    ·have:=List.pairwise_iff_getElem.1 hs k (k+j) (by omega) (by omega) (by omega)
     exact Zi5.ntrans _ _ _ this h0
   have hlt:∀ x∈l.take k,befB x b=true:=fun x hx=>by
    obtain ⟨j,hj,rfl⟩:=List.getElem_of_mem hx
    rw [List.length_take] at hj
    rw [List.getElem_take]
    exact hbef j (by omega) (by omega)
   rw [List.append_assoc,List.pairwise_append]
   refine ⟨hs1,?_,fun x hx y hy=>?_⟩
   ·rw [List.singleton_append,List.pairwise_cons]
    exact ⟨fun y hy=>hgt y hy,hs2⟩
   ·rw [List.singleton_append,List.mem_cons] at hy
    rcases hy with rfl | hy
    ·exact Zhi (hlt x hx)
    ·exact Zi5.ntrans _ _ _ (hgt y hy) (Zhi (hlt x hx))
def Zdc (thing weight:Int) (way:List YTrip):List YBooking:=way.map fun t=>⟨thing,t,weight⟩
theorem Zlf {n:YNetwork} {l:List YBooking} (h:Zr n l=true):l.Pairwise leB:=List.pairwise_iff_getElem.2 fun i j hi hj hij=>Zhi (ZeR h j i hj hij)
theorem Zi0 {n:YNetwork} {d e:List YBooking} (hp:d.Perm e) (hd:d.Pairwise leB) (he:e.Pairwise leB) (hb:Zr n d=true):d=e:=by
 refine List.Perm.eq_of_pairwise (le:=leB) (fun a b ha hb' h1 h2=>?_) hd he hp
 have hb2:=hp.mem_iff.2 hb'
 obtain ⟨i,hi,rfl⟩:=List.getElem_of_mem ha
 obtain ⟨j,hj,rfl⟩:=List.getElem_of_mem hb2
 rcases Nat.lt_trichotomy i j with h | h | h
 ·have:=ZeR hb j i hj h
  have h2':befB d[i] d[j]=false:=h2
  rw [this] at h2'; cases h2'
 ·subst h; rfl
 ·have:=ZeR hb i j hi h
  have h1':befB d[j] d[i]=false:=h1
  rw [this] at h1'; cases h1'
theorem Zoi {n:YNetwork} {d e:List YBooking} (hp:d.Perm e) (hd:d.Pairwise leB) (he:e.Pairwise leB):Zr n d=Zr n e:=by
 cases h1:Zr n d with
 | true=>rw [← Zi0 hp hd he h1,h1]
 | false=>
  cases h2:Zr n e with
  | false=>rfl
  | true=>rw [Zi0 hp.symm he hd h2,h1] at h2; cases h2
theorem ZfV {n:YNetwork} (hf:ZZ n) {l:List YBooking} (hl:l.length≤1048000) (thing weight:Int) {way:List YTrip} {d:List YBooking} (hp:d.Perm (l++Zdc thing weight way)) (hs:d.Pairwise leB):
 Zx n l thing weight way=some (if Zr n l=true∧way.length≤20∧Zr n d=true then (d,true) else (l,false)):=by
 unfold Zx
 rw [Zfl (by omega),Option.bind_some,Zb2 hf (by omega),Option.bind_some]
 by_cases hb:Zr n l=true
 case neg=>
  have hb':Zr n l=false:=by simpa using hb
  rw [hb',if_neg (fun h=>by cases h.1)]; rfl
 rw [hb]
 by_cases hw:way.length≤20
 case neg=>
  rw [if_neg (fun h=>hw h.2.1),decide_eq_true (show 20<(way.length:Int) by omega)]; rfl
 rw [decide_eq_false (show ¬ 20<(way.length:Int) by omega)]
 obtain ⟨o,ho,ho1,ho2,ho3⟩:Tot (iterF (Zc8 n l thing weight way) NN (0,l)) fun o=>o.length=l.length+way.length∧o.Perm (l++Zdc thing weight way)∧o.Pairwise leB:=by
  refine Tot.loop (fun k s=>∃ i:Nat,s.1=(i:Int)∧i+k=way.length∧s.2.length=l.length+i∧s.2.Perm (l++Zdc thing weight (way.take i))∧s.2.Pairwise leB) (fun k s hs=>?_) NN way.length _ ⟨0,rfl,by omega,rfl,by simp [Zdc],Zlf hb⟩ (by unfold NN; omega)
  obtain ⟨i,hi,hk,hlen,hpp,hss⟩:=hs
  unfold Zc8
  rw [hi]
  refine Tot.cond (fun hd=>?_) fun hd=>Tot.ret (by
   have:=of_decide_eq_false hd
   have hi2:i=way.length:=by omega
   rw [hi2,List.take_length] at hpp
   exact ⟨by omega,hpp,hss⟩)
  have hlt:=of_decide_eq_true hd
  have hwi:w64 ((i:Int)+1)=((i+1:Nat):Int):=by rw [Zc (by omega)]; omega
  have hil:i<way.length:=by omega
  have hy:getI way (i:Int)=some way[i]:=by rw [Zd]; exact List.getElem?_eq_getElem hil
  rw [hy,Option.bind_some,hwi]
  refine Tot.bind (ZmO (by omega) _ hss) fun r hr=>Tot.ret ⟨k-1,by omega,i+1,rfl,by omega,by simp only; omega,?_,hr.2.2⟩
  refine hr.2.1.trans ?_
  have:Zdc thing weight (way.take (i+1))=Zdc thing weight (way.take i)++[⟨thing,way[i],weight⟩]:=by
   unfold Zdc
   rw [List.take_succ_eq_append_getElem hil,List.map_append]; rfl
  rw [this,← List.append_assoc]
  exact hpp.append_right _
 simp only [Bool.not_true,cond_false,ho,Option.bind_some]
 rw [Zb2 hf (by omega),Option.bind_some,Zoi (n:=n) (ho2.trans hp.symm) ho3 hs]
 by_cases hd:Zr n d=true
 ·rw [hd,if_pos ⟨by trivial,hw,by trivial⟩,Zi0 (hp.trans ho2.symm) hs ho3 hd]; rfl
 ·have hd':Zr n d=false:=by simpa using hd
  rw [hd',if_neg (fun h=>by cases h.2.2)]; rfl
structure WayR (n:YNetwork) (l:List YBooking) (closed:List YTrip) (weight:Int) (from_ to_:ByteArray) (at_:Int) (way:List YTrip):Prop where
 hC:Zr n l=true∧0≤idxV (Za n) from_∧at_≤100000∧1≤weight
 hto:0≤idxV (Za n) to_
 len:way.length≤20
 best:∃ e,getI (ZU n l closed weight (idxV (Za n) from_) at_ (Za n).length) (idxV (Za n) to_)=some e∧0≤e∧e≤100000∧(way=[]∧e=(if 0 > at_ then 0 else at_)∨∃ t,way.getLast?=some t∧ZbH n t=e)
 nodup:(from_::way.map (ZaS n)).Nodup
 last:(from_::way.map (ZaS n)).getLast?=some to_
 chain:ZcD n from_ (if 0 > at_ then 0 else at_) way
 found:∀ t∈way,Zar closed t=some false∧∃ y q,getI n.legs t.leg=some y∧ZN l t=some q∧weight≤w64 (y.room-q)
theorem Zfj {n:YNetwork}:∀ {ts:List YTrip} {p:ByteArray} {a:Int},ZcD n p a ts→∀ t∈ts,Zc3 n t=true
 | x::ts,p,a,h,t,ht=>by
  rcases List.mem_cons.1 ht with rfl | ht
  ·exact h.1
  ·exact Zfj h.2.2.2 t ht
section
variable {n:YNetwork} (hf:ZZ n)
include hf
theorem Zqj {l:List YBooking} (hl:l.length≤1048576) {closed:List YTrip} {from_:ByteArray} {at_ weight:Int} (hC:¬ (Zr n l=true∧0≤idxV (Za n) from_∧at_≤100000∧1≤weight)) (k:Int):Zv n l closed from_ at_ weight k=some []:=by
 unfold Zv
 rw [(ZaL hf).2]
 simp only [Option.bind_some,ZeU hf,Zb2 hf hl]
 by_cases hB:Zr n l=true
 case neg=>rw [show Zr n l=false by simpa using hB]; rfl
 rw [hB]
 by_cases h1:idxV (Za n) from_<0
 ·rw [decide_eq_true h1]; rfl
 by_cases h2:100000<at_
 ·rw [decide_eq_true h2,decide_eq_false h1]; rfl
 by_cases h3:weight<1
 ·rw [decide_eq_true h3,decide_eq_false h1,decide_eq_false h2]; rfl
 exact absurd ⟨hB,by omega,by omega,by omega⟩ hC
theorem ZqX {from_:ByteArray} {at_:Int} {way:List YTrip} (hn:Zb n=some true) (hnd:(from_::way.map (ZaS n)).Nodup) (hc:ZcD n from_ at_ way):way.length≤20:=by
 have hlg:=Zfs hn
 have hb:∀ t∈way,0≤t.leg∧t.leg.toNat<n.legs.length:=fun t ht=>by
  obtain ⟨y,hy,_⟩:=ZbE hf (Zfj hc t ht)
  obtain ⟨a,b⟩:=getI_some hy
  exact ⟨a,(List.getElem?_eq_some_iff.1 b).1⟩
 have h1:=(List.nodup_cons.1 hnd).2
 unfold List.Nodup at h1
 rw [List.pairwise_map] at h1
 have h2:(way.map fun t=>t.leg.toNat).Nodup:=by
  unfold List.Nodup
  rw [List.pairwise_map]
  refine h1.imp_of_mem fun {a b} ha hb' h e=>h ?_
  have e1:a.leg=b.leg:=by have:=hb a ha; have:=hb b hb'; omega
  unfold ZaS
  rw [e1]
 have:=ZjQ n.legs.length _ h2 fun x hx=>by
  obtain ⟨t,ht,rfl⟩:=List.mem_map.1 hx
  exact (hb t ht).2
 rw [List.length_map] at this
 omega
theorem Zj3 {l:List YBooking} (hl:l.length≤1048576) {closed:List YTrip} (hc:closed.length≤1048576) {from_ to_:ByteArray} {at_ weight:Int} {way:List YTrip} (h:Zq n l closed from_ to_ at_ weight=some (way,true)):WayR n l closed weight from_ to_ at_ way:=by
 unfold Zq at h
 rw [(ZaL hf).2] at h
 simp only [Option.bind_some,ZeU hf] at h
 by_cases hC:Zr n l=true∧0≤idxV (Za n) from_∧at_≤100000∧1≤weight
 case neg=>
  rw [Zqj hf hl hC] at h
  simp only [Option.bind_some,List.length_nil] at h
  by_cases ht:idxV (Za n) to_<0
  ·rw [decide_eq_true ht] at h; cases h
  ·rw [decide_eq_false ht] at h; cases h
 have hn:=(ZV hC.1).1
 have hlg:=Zfs hn
 have hp:(Za n).length≤40:=by have:=Zbk n; omega
 have hbl:=Zel hf hl hc weight (idxV (Za n) from_) at_
 have hfl:=(Zer (Za n) from_).2
 have htl:=(Zer (Za n) to_).2
 rw [Zd8 hf hl hc weight at_ hC (Nat.le_refl _)] at h
 simp only [Option.bind_some] at h
 by_cases ht:idxV (Za n) to_<0
 ·rw [decide_eq_true ht] at h; cases h
 obtain ⟨e,he,_⟩:=Zei (xs:=ZU n l closed weight (idxV (Za n) from_) at_ (Za n).length) (i:=idxV (Za n) to_) ⟨by omega,by rw [hbl]; exact htl⟩
 simp only [decide_eq_false ht,cond_false,decide_eq_false (show ¬ (((ZU n l closed weight (idxV (Za n) from_) at_ (Za n).length).length:Int)=0) by rw [hbl]; omega),he,Option.bind_some] at h
 by_cases hd:e<0
 ·rw [decide_eq_true hd] at h; cases h
 obtain ⟨k,q1,q2,q3,q4,q5⟩:=Zin hf hl hc weight at_ hp hC ⟨by omega,htl⟩ he
 obtain ⟨w,p1,p2⟩:=ZqC hf hn hl hc weight at_ hC k to_ e [] (by omega) q2 (by omega) q3 (by simp only [List.length_nil]; omega) NN (by unfold NN; omega)
 rw [List.append_nil] at p1
 simp only [decide_eq_false hd,cond_false,q4,Option.bind_some,p1,Option.some.injEq,Prod.mk.injEq] at h
 obtain ⟨rfl,_⟩:=h
 have po:=ZqD hf hn hl hc weight at_ hC.2.1 hC.2.2.1 p2
 exact ⟨hC,by omega,ZqX hf hn po.nodup po.chain,⟨e,he,po.time.1,po.time.2,po.ends⟩,po.nodup,po.last,po.chain,po.found⟩
theorem Zko (hn:Zb n=some true) {way:List YTrip} (hl:way.length≤1048576) {a b:ByteArray} {t:Int} (ha:0≤idxV (Za n) a) (hb:0≤idxV (Za n) b) (hc:ZcD n a t way) (he:way.foldl (fun _ t=>ZaS n t) a=b):Zan n way a b t=some true:=by
 obtain ⟨ch0,ch1⟩:=Zdb hn
 have key:∀ (d i:Nat) (p:ByteArray) (u:Int),i+d=way.length→ZcD n p u (way.drop i)→∀ N,d<N→iterF (ZE n way b) N (p,u,(i:Int))=some (.inl ((way.drop i).foldl (fun _ t=>ZaS n t) p)):=by
  intro d
  induction d with
  | zero=>
   intro i p u hi h N hN
   obtain ⟨N,rfl⟩:∃ M,N=M+1:=⟨N-1,by omega⟩
   rw [List.drop_of_length_le (by omega)]
   unfold iterF ZE
   simp only [decide_eq_false (show ¬ (i:Int)<(way.length:Int) by omega),cond_false,List.foldl_nil]
   rfl
  | succ d ih=>
   intro i p u hi h N hN
   obtain ⟨N,rfl⟩:∃ M,N=M+1:=⟨N-1,by omega⟩
   have hlt:i<way.length:=by omega
   have hg:getI way (i:Int)=some way[i]:=by rw [Zd]; exact List.getElem?_eq_getElem hlt
   have hw:w64 ((i:Int)+1)=((i+1:Nat):Int):=Zt hlt (by omega)
   rw [List.drop_eq_getElem_cons hlt] at h ⊢
   obtain ⟨c1,c2,c3,c4⟩:=h
   obtain ⟨y,hy,_⟩:=ZbE hf c1
   obtain ⟨t1,t2,t3,t4,t5⟩:=ZbF hf hn c1
   have f1:Zd1 n way[i]=y.from_:=by unfold Zd1; rw [hy]; rfl
   have f2:ZaS n way[i]=y.to_:=by unfold ZaS; rw [hy]; rfl
   have hwe:w64 (ZbH n way[i]+n.change)=ZbH n way[i]+n.change:=Zc (by omega)
   have hstep:ZE n way b (p,u,(i:Int))=some (.inl (ZaS n way[i],ZbH n way[i]+n.change,((i+1:Nat):Int))):=by
    unfold ZE
    simp only [decide_eq_true (show (i:Int)<way.length by omega),cond_true,hg,Option.bind_some,ZlB hf hn,c1,Bool.not_true,cond_false,hy,t1,t2,decide_eq_true (show y.from_=p by rw [← f1]; exact c2),decide_eq_false (show ¬ Zbp n way[i]<u by omega),hwe,hw,f2]
   unfold iterF
   rw [hstep,List.foldl_cons]
   exact ih (i+1) _ _ (by omega) c4 N (by omega)
 have hk:=key way.length 0 a t (by omega) (by simpa using hc) NN (by unfold NN; omega)
 rw [List.drop_zero,he] at hk
 have hpl:=Zbk n
 have hll:=hf.legs
 unfold Zan
 rw [(ZaL hf).2,hn]
 simp only [Option.bind_some,Zet (show (Za n).length≤4194304 by omega),decide_eq_false (show ¬ idxV (Za n) a<0 by omega),decide_eq_false (show ¬ idxV (Za n) b<0 by omega),Bool.not_true,cond_false]
 rw [show (0:Int)=((0:Nat):Int) from rfl,hk]
 simp [selim]
end
theorem Zoj:∀ (l:List YBooking),l.length≤1048575→∃ d:List YBooking,d.Perm l∧d.Pairwise leB
 | [],_=>⟨[],.nil,.nil⟩
 | x::l,h=>by
  rw [List.length_cons] at h
  obtain ⟨d,h1,h2⟩:=Zoj l (by omega)
  have:=h1.length_eq
  obtain ⟨r,_,_,h3,h4⟩:=ZmO (l:=d) (by omega) x h2
  exact ⟨r,h3.trans ((h1.append_right [x]).trans (List.perm_append_comm (l₁:=l) (l₂:=[x]))),h4⟩
def newO (w:YWorld) (from_ to_:ByteArray) (service weight due:Int) (way:List YTrip):YOrder:=⟨from_,to_,service,weight,w.now,due,way,0,1,from_,0⟩
def accV (w:YWorld) (o:YOrder) (ys:List YBooking):YWorld:=Zgs ⟨w.network,w.orders++[o],ys,w.closed,w.now,w.scans,w.skip,w.made⟩ ⟨(w.orders.length:Int)+1,w.now,1,o.from_,⟨0,0⟩⟩
section
variable {w:YWorld} (h:WOk w)
include h
end
def Zfx (l:List YBooking) (t:YTrip):Int:=(l.map fun b=>if b.trip=t then b.weight else 0).sum
theorem ZkA {l:List YBooking} (hw:∀ b∈l,1≤b.weight∧b.weight≤1000000) (t:YTrip):0≤Zfx l t∧Zfx l t≤1000000*l.length:=by
 induction l with
 | nil=>simp [Zfx]
 | cons x xs ih=>
  have hx:=hw x List.mem_cons_self
  have:=ih fun b hb=>hw b (List.mem_cons_of_mem _ hb)
  unfold Zfx at this ⊢
  rw [List.map_cons,List.sum_cons,List.length_cons]
  split <;> omega
theorem ZpT {l:List YBooking} (hl:l.length≤1000) (hw:∀ b∈l,1≤b.weight∧b.weight≤1000000) (t:YTrip):ZN l t=some (Zfx l t):=by
 unfold ZN
 have e:iterF (ZI l t) NN (0,0)=some (Zfx l t):=by
  have:=Zd6 (body:=ZI l t) (fun i:Nat=>(Zfx (l.take i) t,(i:Int))) (n:=l.length) (o:=Zfx l t) (fun i hi=>?_) ?_ NN (by unfold NN; omega)
  ·simpa [Zfx] using this
  ·have ho:l[i]?=some l[i]:=List.getElem?_eq_getElem hi
   have hg:getI l (i:Int)=some l[i]:=by rw [Zd]; exact ho
   have hwi:w64 ((i:Int)+1)=((i+1:Nat):Int):=Zt hi (by omega)
   have hb:=ZkA (l:=l.take i) (fun b hb=>hw b (List.mem_of_mem_take hb)) t
   have hx:=hw _ (List.getElem_mem hi)
   have hlen:(l.take i).length≤1000:=by rw [List.length_take]; omega
   unfold ZI
   have hs:Zfx (l.take (i+1)) t=Zfx (l.take i) t+(if l[i].trip=t then l[i].weight else 0):=by
    unfold Zfx
    rw [← Zft ho,List.map_append,List.sum_append]; simp
   simp only [decide_eq_true (show (i:Int)<l.length by omega),cond_true,hg,Option.bind_some,hwi]
   rw [hs]
   by_cases ht:l[i].trip=t
   ·rw [decide_eq_true ht,if_pos ht,cond_true,Zc (by omega)]
   ·rw [decide_eq_false ht,if_neg ht,cond_false,Int.add_zero]
  ·unfold ZI
   simp
 rw [e]; rfl
theorem Zfd {α:Type} [DecidableEq α]:∀ {xs ys:List α},xs.Nodup→(∀ x∈xs,x∈ys)→xs.length≤ys.length
 | [],ys,_,_=>Nat.zero_le _
 | x::xs,ys,hn,hs=>by
  obtain ⟨h1,h2⟩:=List.nodup_cons.1 hn
  have hx:=hs x (by simp)
  have:=Zfd (ys:=ys.erase x) h2 fun y hy=>(List.mem_erase_of_ne (fun e:y=x=>h1 (e ▸ hy))).2 (hs y (by simp [hy]))
  rw [List.length_erase_of_mem hx] at this
  have:=List.length_pos_of_mem hx
  simp only [List.length_cons]; omega
theorem Zom {α:Type} (f:α→Nat):∀ {l:List α} {i:Nat} {o:α} (x:α),l[i]?=some o→((l.set i x).map f).sum+f o=(l.map f).sum+f x
 | [],_,_,_,h=>by simp at h
 | a::l,0,o,x,h=>by
  obtain rfl:a=o:=by simpa using h
  simp only [List.set_cons_zero,List.map_cons,List.sum_cons]; omega
 | a::l,i+1,o,x,h=>by
  have:=Zom f x (l:=l) (i:=i) (o:=o) (by simpa using h)
  simp only [List.set_cons_succ,List.map_cons,List.sum_cons]; omega
theorem Zkg:∀ (os:List YOrder) (a:Nat),(∀ o∈os,o.way.length≤1048576)→a+1048576*os.length≤1099511627776→os.foldl (fun a (o:YOrder)=>w64 (a+(o.way.length:Int))) (a:Int)=((a+(os.map fun o=>o.way.length).sum:Nat):Int)
 | [],a,_,_=>by simp
 | o::os,a,h,hb=>by
  have h1:=h o (by simp)
  simp only [List.length_cons] at hb
  rw [List.foldl_cons,Zc (by omega),show ((a:Int)+(o.way.length:Int))=((a+o.way.length:Nat):Int) by omega,Zkg os _ (fun x hx=>h x (by simp [hx])) (by omega)]
  simp only [List.map_cons,List.sum_cons]; omega
/-! Ways in two parts. -/
section
variable {n:YNetwork}
def endP (n:YNetwork) (p:ByteArray) (ts:List YTrip):ByteArray:=ts.foldl (fun _ t=>ZaS n t) p
def endA (n:YNetwork) (a:Int) (ts:List YTrip):Int:=ts.foldl (fun _ t=>ZbH n t+n.change) a
theorem Zhl:∀ (xs:List YTrip) {ys:List YTrip} {p:ByteArray} {a:Int},ZcD n p a (xs++ys)↔ZcD n p a xs∧ZcD n (endP n p xs) (endA n a xs) ys
 | [],ys,p,a=>by simp [ZcD,endP,endA]
 | x::xs,ys,p,a=>by
  have:=Zhl xs (ys:=ys) (p:=ZaS n x) (a:=ZbH n x+n.change)
  simp only [List.cons_append,ZcD,endP,endA,List.foldl_cons] at this ⊢
  rw [this]
  constructor
  ·rintro ⟨h1,h2,h3,h4,h5⟩; exact ⟨⟨h1,h2,h3,h4⟩,h5⟩
  ·rintro ⟨⟨h1,h2,h3,h4⟩,h5⟩; exact ⟨h1,h2,h3,h4,h5⟩
theorem Zjf {ts:List YTrip} {p:ByteArray} {a b:Int} (h:ZcD n p a ts) (hab:b≤a):ZcD n p b ts:=by
 cases ts with
 | nil=>trivial
 | cons t ts=>exact ⟨h.1,h.2.1,Int.le_trans hab h.2.2.1,h.2.2.2⟩
variable (hf:ZZ n) (hn:Zb n=some true)
include hf hn
theorem Zig:∀ {ts:List YTrip} {p:ByteArray} {a:Int},ZcD n p a ts→∀ t∈ts,a≤Zbp n t
 | x::ts,p,a,h,t,ht=>by
  rcases List.mem_cons.1 ht with rfl | ht
  ·exact h.2.2.1
  ·obtain ⟨t1,t2,t3,t4,t5⟩:=ZbF hf hn h.1
   obtain ⟨c0,c1⟩:=Zdb hn
   have:=Zig h.2.2.2 t ht
   have:=h.2.2.1
   omega
theorem ZiF:∀ {ts:List YTrip} {p:ByteArray} {a:Int},ZcD n p a ts→ts.Pairwise fun x y=>Zbp n x<Zbp n y
 | [],_,_,_=>List.Pairwise.nil
 | x::ts,p,a,h=>by
  obtain ⟨t1,t2,t3,t4,t5⟩:=ZbF hf hn h.1
  obtain ⟨c0,c1⟩:=Zdb hn
  refine List.pairwise_cons.2 ⟨fun y hy=>?_,ZiF h.2.2.2⟩
  have:=Zig hf hn h.2.2.2 y hy
  omega
theorem ZfJ {ts:List YTrip} {p:ByteArray} {a:Int} (h:ZcD n p a ts):ts.Nodup:=by
 unfold List.Nodup
 exact (ZiF hf hn h).imp fun {a b} hlt e=>by rw [e] at hlt; omega
theorem Zo7 {p:ByteArray} (hp:0≤idxV (Za n) p) {ts:List YTrip} (h:∀ t∈ts,Zc3 n t=true):0≤idxV (Za n) (endP n p ts):=by
 induction ts generalizing p with
 | nil=>exact hp
 | cons t ts ih=>
  obtain ⟨y,hy,hym⟩:=ZbE hf (h t (by simp))
  have e:ZaS n t=y.to_:=by unfold ZaS; rw [hy]; rfl
  have:=ih (p:=ZaS n t) (by rw [e]; exact ZdG (ZeV hym).2) fun x hx=>h x (by simp [hx])
  exact this
end
theorem Zrl {l:List ByteArray} {p:ByteArray} (h:0≤idxV l p):p∈l:=by
 unfold idxV at h
 cases hx:l.findIdx? fun y=>decide (y=p) with
 | none=>rw [hx] at h; simp at h
 | some k=>
  obtain ⟨h1,h2,_⟩:=List.findIdx?_eq_some_iff_getElem.1 hx
  exact of_decide_eq_true h2 ▸ List.getElem_mem h1
theorem ZfZ {n:YNetwork} {p:ByteArray}:∀ {ts:List YTrip} {t:YTrip},ts.getLast?=some t→endP n p ts=ZaS n t
 | [],_,h=>by simp at h
 | [x],t,h=>by obtain rfl:x=t:=by simpa using h
               rfl
 | x::y::ts,t,h=>by
  have:=ZfZ (n:=n) (p:=ZaS n x) (ts:=y::ts) (t:=t) (by simpa using h)
  exact this
theorem Zjn {n:YNetwork} {a:Int}:∀ {ts:List YTrip} {t:YTrip},ts.getLast?=some t→endA n a ts=ZbH n t+n.change
 | [],_,h=>by simp at h
 | [x],t,h=>by obtain rfl:x=t:=by simpa using h
               rfl
 | x::y::ts,t,h=>by
  have:=Zjn (n:=n) (a:=ZbH n x+n.change) (ts:=y::ts) (t:=t) (by simpa using h)
  exact this
theorem Zd9 {α:Type} {l:List α} {k:Nat} (h0:0<k) (h1:k≤l.length):(l.take k).getLast?=l[k-1]?:=by
 rw [List.getLast?_eq_getElem?,List.length_take,Nat.min_eq_left h1,List.getElem?_take,if_pos (by omega)]
/-! Bookings of which some are dropped. -/
def Zeq (id:Int) (rest:List YTrip) (bs:List YBooking):List YBooking:=bs.filter fun b=>!(decide (b.thing=id) && ZK rest b.trip)
theorem ZdZ {l:List YTrip} {t:YTrip}:ZK l t=true↔t∈l:=by
 unfold ZK
 rw [List.any_eq_true]
 exact ⟨fun ⟨x,h1,h2⟩=>of_decide_eq_true h2 ▸ h1,fun h=>⟨t,h,decide_eq_true rfl⟩⟩
theorem ZjM {id:Int} {rest:List YTrip} {bs:List YBooking} {b:YBooking}:b∈Zeq id rest bs↔b∈bs∧¬ (b.thing=id∧b.trip∈rest):=by
 unfold Zeq
 rw [List.mem_filter]
 simp only [Bool.not_eq_true',Bool.and_eq_false_imp,decide_eq_true_iff,not_and]
 refine and_congr_right fun _=>⟨fun h h1 h2=>?_,fun h h1=>?_⟩
 ·have:=h h1; rw [ZdZ.2 h2] at this; cases this
 ·cases hc:ZK rest b.trip with
  | false=>rfl
  | true=>exact absurd (ZdZ.1 hc) (h h1)
theorem Znd (id:Int) (bs:List YBooking):Zeq id [] bs=bs:=by
 unfold Zeq
 exact List.filter_eq_self.2 fun b _=>by simp [ZK]
theorem ZnD {l l':List YBooking} (h:l'.Sublist l) (hw:∀ b∈l,1≤b.weight∧b.weight≤1000000) (t:YTrip):Zfx l' t≤Zfx l t:=by
 induction h with
 | slnil=>exact Int.le_refl _
 | cons a h ih=>
  have:=ih fun b hb=>hw b (by simp [hb])
  have:=hw a (by simp)
  unfold Zfx at *
  simp only [List.map_cons,List.sum_cons]
  split <;> omega
 | cons_cons a h ih=>
  have:=ih fun b hb=>hw b (by simp [hb])
  unfold Zfx at *
  simp only [List.map_cons,List.sum_cons]
  omega
theorem Zhk {n:YNetwork} (hf:ZZ n) {l l':List YBooking} (hb:Zr n l=true) (hs:l'.Sublist l):Zr n l'=true:=by
 obtain ⟨hn,hl⟩:=ZV hb
 have hll:=hs.length_le
 have hw:∀ b∈l,1≤b.weight∧b.weight≤1000000:=fun b hm=>by
  obtain ⟨i,hi,rfl⟩:=List.getElem_of_mem hm
  have h1:=(Zg1 hb hi).1
  unfold bk1 at h1
  rw [List.getElem?_eq_getElem hi] at h1
  simp only [Bool.and_eq_true,decide_eq_true_iff] at h1
  exact h1.1.2
 have hp:l'.Pairwise fun a b=>befB a b=true:=by
  refine List.Pairwise.sublist hs ?_
  exact List.pairwise_iff_getElem.2 fun i j hi hj hij=>ZeR hb j i hj hij
 unfold Zr
 rw [hn]
 simp only [Option.getD_some,Bool.true_and,Bool.and_eq_true,decide_eq_true_iff]
 refine ⟨by omega,List.all_eq_true.2 fun i hi=>?_⟩
 have hi':i<l'.length:=List.mem_range.1 hi
 obtain ⟨j,hj,hje⟩:=List.getElem_of_mem (hs.subset (List.getElem_mem hi'))
 obtain ⟨b1,b2⟩:=Zg1 hb hj
 unfold bk1 at b1
 unfold bk2 at b2
 rw [List.getElem?_eq_getElem hj,hje] at b1 b2
 simp only [Bool.and_eq_true] at b1 ⊢
 constructor
 ·unfold bk1
  rw [List.getElem?_eq_getElem hi']
  simp only [Bool.and_eq_true]
  refine ⟨b1.1,?_⟩
  cases i with
  | zero=>rfl
  | succ i=>
   have hi2:i<l'.length:=by omega
   have:=List.pairwise_iff_getElem.1 hp i (i+1) hi2 hi' (by omega)
   rw [show i+1-1=i by omega,List.getElem?_eq_getElem hi2]
   simp only [this,Bool.or_true]
 ·unfold bk2
  rw [List.getElem?_eq_getElem hi']
  have hw':∀ b∈l',1≤b.weight∧b.weight≤1000000:=fun b hb=>hw b (hs.subset hb)
  simp only [ZpT (show l.length≤1000 by omega) hw] at b2
  simp only [ZpT (show l'.length≤1000 by omega) hw']
  cases hg:getI n.legs l'[i].trip.leg with
  | none=>rw [hg] at b2; cases b2
  | some g=>
   rw [hg] at b2
   simp only [Bool.not_eq_true',decide_eq_false_iff_not] at b2 ⊢
   have:=ZnD hs hw l'[i].trip
   omega
theorem Ze8 (id:Int) (rest:List YTrip) (bs:List YBooking):(Zeq id rest bs).Sublist bs:=List.filter_sublist
theorem Zkn {n:YNetwork} {l:List YBooking} (hb:Zr n l=true):l.Nodup:=by
 unfold List.Nodup
 refine List.pairwise_iff_getElem.2 fun i j hi hj hij e=>?_
 have:=ZeR hb j i hj hij
 rw [ZiA (by rw [e]) (by rw [e])] at this
 cases this
theorem Znc {n:YNetwork} {l:List YBooking} (hb:Zr n l=true) {id wt:Int} {rest:List YTrip} (hr:rest.Nodup) (hm:∀ t∈rest,(⟨id,t,wt⟩:YBooking)∈l):(Zeq id rest l).length+rest.length=l.length:=by
 have hu:=Zid hb
 have e:=List.length_eq_countP_add_countP (p:=fun b:YBooking=>decide (b.thing=id) && ZK rest b.trip) (l:=l)
 have e2:l.countP (fun b=>decide ¬ (decide (b.thing=id) && ZK rest b.trip)=true)=(Zeq id rest l).length:=by
  rw [List.countP_eq_length_filter]
  unfold Zeq
  congr 2
  funext b
  cases decide (b.thing=id) && ZK rest b.trip <;> rfl
 have e3:l.countP (fun b:YBooking=>decide (b.thing=id) && ZK rest b.trip)=rest.length:=by
  rw [List.countP_eq_length_filter]
  refine Nat.le_antisymm ?_ ?_
  ·have el:((l.filter fun b=>decide (b.thing=id) && ZK rest b.trip).map fun b:YBooking=>b.trip).length=(l.filter fun b=>decide (b.thing=id) && ZK rest b.trip).length:=List.length_map ..
   rw [← el]
   refine Zfd ?_ fun t ht=>?_
   ·unfold List.Nodup
    rw [List.pairwise_map]
    refine (List.Pairwise.sublist List.filter_sublist (Zkn hb)).imp_of_mem fun {a b} ha hb' hne e=>hne ?_
    have ha:=List.mem_filter.1 ha
    have hb':=List.mem_filter.1 hb'
    simp only [Bool.and_eq_true,decide_eq_true_iff] at ha hb'
    exact hu a ha.1 b hb'.1 (ha.2.1.trans hb'.2.1.symm) e
   ·obtain ⟨b,hb1,rfl⟩:=List.mem_map.1 ht
    have:=(List.mem_filter.1 hb1).2
    simp only [Bool.and_eq_true] at this
    exact ZdZ.1 this.2
  ·have el:(rest.map fun t=>(⟨id,t,wt⟩:YBooking)).length=rest.length:=List.length_map ..
   rw [← el]
   refine Zfd ?_ fun b hb1=>?_
   ·unfold List.Nodup
    rw [List.pairwise_map]
    exact hr.imp fun {a b} hne e=>hne (by simpa using e)
   ·obtain ⟨t,ht,rfl⟩:=List.mem_map.1 hb1
    refine List.mem_filter.2 ⟨hm t ht,?_⟩
    simp only [decide_true,Bool.true_and]
    exact ZdZ.2 ht
 rw [e3] at e
 have e':l.length=rest.length+l.countP (fun b=>decide ¬ (decide (b.thing=id) && ZK rest b.trip)=true):=e
 rw [e2] at e'
 omega
end Go.Proofs.YtmcdjilbkmhfoaaGreat
namespace Go.Proofs.YtmcdjilbkmhfoaaGreat
set_option maxRecDepth 10000
open Go.RowKit Go.Lib Go.Sort
set_option linter.unusedVariables false
set_option linter.unusedSimpArgs false
set_option maxRecDepth 100000
set_option maxHeartbeats 4000000
noncomputable def bkT:TypeInfo:=(Tryz.prog.info? 37).get (by kernel_rfl)
noncomputable def bkE:TypeInfo:=(Tryz.prog.info? 135).get (by kernel_rfl)
theorem bkK (n:Nat) (h2:2≤n):Lib.swapperK n bkE 25=9:=by
 have a:bkE.hasPointers=false:=by kernel_rfl
 have b:bkE.bytes=32:=by kernel_rfl
 have c:(n == 0)=false:=by simp; omega
 have d:(n == 1)=false:=by simp; omega
 simp [Lib.swapperK,a,b,c,d]
theorem Zqm (w:World) (os:Array Obj):Up w (grow w os):=⟨rfl,rfl,rfl,by rw [size_grow]; omega,fun b hb=>heap_grow_old w os hb⟩
theorem ZqN {B Bx:Nat} {v:Value} {xs:List YBooking} {w:World} {O:Nat→Prop} (ho:Own w B 135 v xs) (hx:w.heap[Bx]?=some (.cells #[v] 37 (0,0))) (hn:xs.length≤1048576) (ht:Tab w O) (hO:∀ b,B≤b→O b):
 Calls Tryz.prog 200 #[.iface 37 v,.func (.func 201) #[] #[.pointer (some ⟨Bx,0,none⟩)]] w fun e w'=>e=.returned (.tuple #[])∧∃ ys,ys.Perm xs∧ys.Pairwise (fun a b=>befB b a=false)∧Own w' B 135 v ys∧UpO (fun b=>B≤b∧b≠Bx) w w':=by
 by_cases h2:2≤xs.length
 case neg=>
  obtain ⟨A,c,rfl,_,_⟩:=ho.form
  have hR:=Tryz.laysGt8
  have key : ∀ f, Tryz.prog.funcs.findIdx? (·.name == "internal/reflectlite" ++ ".Swapper$" ++ toString (Lib.swapperK xs.length bkE 25)) = some f → Calls Tryz.prog 200 #[.iface 37 (.slice A xs.length c), .func (.func 201) #[] #[.pointer (some ⟨Bx, 0, none⟩)]] w fun e w' => e = .returned (.tuple #[]) ∧ ∃ os, w' = grow w os := fun f hf =>
   Any.sort_SliceStable_tiny Tryz.laysGt8 37 135 bkT bkE (by kernel_rfl) (by kernel_rfl) (by kernel_rfl) (by kernel_rfl) 25 (fun _=>by kernel_rfl) A xs.length c (by omega) f hf _ _ _ w
  have key2 : ∃ f, Tryz.prog.funcs.findIdx? (·.name == "internal/reflectlite" ++ ".Swapper$" ++ toString (Lib.swapperK xs.length bkE 25)) = some f := by
   rcases Nat.lt_or_ge 0 xs.length with h | h
   ·rw [show xs.length=1 by omega]
    exact ⟨260,by kernel_rfl⟩
   ·rw [show xs.length=0 by omega]
    exact ⟨259,by kernel_rfl⟩
  obtain ⟨f,hf⟩:=key2
  refine (key f hf).mono ?_
  rintro e w' ⟨rfl,os,rfl⟩
  have hu:=Zqm w os
  refine ⟨rfl,xs,List.Perm.refl _,?_,ho.up hu,⟨hu.os,hu.tape,hu.output,hu.size,fun b hb _=>hu.block b hb⟩⟩
  match xs,h2 with
  | [],_=>exact .nil
  | [x],_=>simp
  | x::y::l,h2=>simp at h2
 case pos=>
  obtain ⟨g,c,rfl,hB,hnc,hcm,hS⟩:=Zrq ho (by omega)
  have hrow:=hS.row
  have hne:Bx≠g:=by
   rintro rfl
   obtain ⟨cells,h1,_⟩:=hrow
   rw [hx] at h1
   simp at h1
  have hBx:Bx<w.heap.size:=(Array.getElem?_eq_some_iff.1 hx).1
  have hcell:w.cell? ⟨Bx,0,none⟩=some (.slice (some ⟨g,0,none⟩) xs.length c):=by rw [cell_of_row w Bx 0 _ _ (0,0) hx]; rfl
  have hlen:xs.length<1152921504606846976:=by omega
  have hB':sliceBound Tryz.prog 135 bkE 25 (some ⟨g,0,none⟩) xs.length c=#[.slice (some ⟨g,0,none⟩) xs.length c,typeHandle Tryz.prog 135]:=by
   unfold sliceBound; rw [if_neg (swapperK_gt _ _ _ h2)]
  have hsw:SwapSwapsK Tryz.prog 267 #[.slice (some ⟨g,0,none⟩) xs.length c,typeHandle Tryz.prog 135] (Enc.cells (α:=YBooking)) 4 g 0 xs.length:=
   swapSwapsK_of_literal false 267 (fun args W=>run_callFunc_extern Tryz.func267 (by kernel_rfl) (by kernel_rfl) (by kernel_rfl) (e:=Extern.ReflectliteSwapper.swap false) (by kernel_rfl) args W) 135 bkE (by kernel_rfl) (Enc.cells (α:=YBooking)) 4 (fun _=>rfl) (by kernel_rfl) (fun _=>by kernel_rfl) Enc.one g 0 xs.length c
  have hless:=Zqr (n:=xs.length) hcell hBx hne hnc hcm ht (hO g hB)
  refine Any.sort_SliceStable_of_stable Tryz.laysGt8 37 135 bkT bkE (by kernel_rfl) (by kernel_rfl) (by kernel_rfl) (by kernel_rfl) 25 (fun _=>by kernel_rfl) (some ⟨g,0,none⟩) xs.length c (by omega) 267 (by rw [bkK _ h2]; kernel_rfl) (.func 201) #[] #[.pointer (some ⟨Bx,0,none⟩)] w (fun w'=>∃ ys,ys.Perm xs∧ys.Pairwise (fun a b=>befB b a=false)∧Own w' B 135 (.slice (some ⟨g,0,none⟩) xs.length c) ys∧UpO (fun b=>B≤b∧b≠Bx) w w') ?_
  rw [hB']
  have hu:Up w (stableWorld Tryz.prog Tryz.laysGt8_ren 37 (some ⟨g,0,none⟩) xs.length c w):=by unfold stableWorld; exact Up.al _ (Up.al _ (Up.rfl' w))
  generalize stableWorld Tryz.prog Tryz.laysGt8_ren 37 (some ⟨g,0,none⟩) xs.length c w=w1 at hu ⊢
  have hS1:=hS.more hu
  have hst:=Zpk (enc:=Enc.cells (α:=YBooking)) (k:=4) (fun _=>rfl) 201 #[.pointer (some ⟨Bx,0,none⟩)] 267 #[.slice (some ⟨g,0,none⟩) xs.length c,typeHandle Tryz.prog 135] xs.length hlen hsw Zi5 (enters_of Tryz.func201 (by kernel_rfl) rfl) (d:=xs.toArray) (by simp) hS1.self (hless.on hS1)
  refine hst.mono ?_
  rintro e w' ⟨rfl,e,hE1,hE2,hE3⟩
  have hE:=hS1.trans hE1
  have hsz:e.size=xs.length:=by rw [hE2.1]; simp
  have hown:=Zp2 (B:=B) (c:=c) hE hB (by omega) hcm
  rw [hsz] at hown
  refine ⟨rfl,e.toList,?_,?_,hown,⟨hE.up.os,hE.up.tape,hE.up.output,hE.up.size,fun b hb hn=>hE.up.block b hb fun h=>hn ⟨h ▸ hB,fun h'=>hne (h' ▸ h.symm ▸ rfl)⟩⟩⟩
  ·have hp:=hE2.2.2
   rw [← hsz] at hp
   rw [Array.extract_size] at hp
   rw [hsz] at hp
   have h3:xs.toArray.extract 0 xs.length=xs.toArray:=by simp
   rw [h3] at hp
   simpa using hp
  ·rw [List.pairwise_iff_getElem]
   intro i j hi hj hij
   have:=hE3 i j (by omega) hij (by rw [Array.length_toList] at hj; omega)
   rw [getElem!_pos e j (by rw [Array.length_toList] at hj; exact hj),getElem!_pos e i (by rw [Array.length_toList] at hi; exact hi)] at this
   simpa using this
abbrev SW (w:World):Nat→Prop:=fun b=>b<w.heap.size
theorem ZgE {w w':World} {p:PV} {x:Value} (h:RepC w (SW w) p x) (hu:Up w w'):RepC w' (SW w') p x:=
 h.ext (fun b hb=>Nat.lt_of_lt_of_le hb hu.size) (fun b o hb=>hu.cell (p:=⟨b,o,none⟩) hb)
theorem CallM.ownT {P:Program} {α:Type} [Enc α] {c:α→List PV} [hf:Zhe c (id:α→α)] {f:FuncId} {args:List PV} {T:TypeId} {r:List α} (h:CallM P f args [] (.ms 0) [some ⟨T,Enc.k α,r.map c⟩]) {w:World} (ht:Tab w (own0 fun _=>none)) {vs:Array Value} (hl:vs.size=args.length) (ha:∀ (i:Nat) (p:PV),args[i]?=some p→∃ x,vs[i]?=some x∧Rep w (E1 (SW w) (fun _=>none) 0) p x):
 Calls P f vs w fun e w'=>∃ v,e=.returned v∧Own w' w.heap.size T v r∧Up w w':=by
 have hok:Ok w (own0 fun _=>none) (E1 (fun b=>b<w.heap.size) (fun _=>none) 0) w []:=
  ⟨UpO.refl _ _,fun b h=>h,fun l B h=>(by cases h),fun l l' B B' h=>(by cases h),fun l h=>absurd h (Nat.not_lt_zero l),fun l B h=>(by cases h),fun l mb h=>(by simp at h),fun l B h=>(by cases h),ht,fun _ _ h=>h.elim⟩
 refine (h (fun b=>b<w.heap.size) (fun _=>none) w vs (fun _ _=>False) hok hl ha).mono ?_
 rintro e w' ⟨v,E',rfl,hk,_,_,_,hr⟩
 refine ⟨v,rfl,?_,⟨hk.up.os,hk.up.tape,hk.up.output,hk.up.size,fun b hb=>hk.up.block b hb ZlP⟩⟩
 obtain ⟨B,hB,hb,rfl⟩:=hr.ms_inv hk (l:=0) rfl
 have hkk:=hb.k
 have hn:B.n=r.length:=by have:=hb.n; simpa using this
 have hT:=hb.T
 simp only at hkk hT
 cases hz:B.z with
 | true=>
  have h0:r=[]:=by have:=hb.nil hz; simpa using this
  subst h0
  have hsv:B.sv=.slice none 0 0:=by simp [Blk.sv,hz]
  rw [hsv]
  exact World.ownsRow_nil _ _ _ _
 | false=>
  have hsv:B.sv=.slice (some ⟨B.b,0,none⟩) r.length B.c:=by simp [Blk.sv,hz,hn]
  rw [hsv]
  obtain ⟨cells,hc,hcs,hcell⟩:=hb.mem hz
  have hown:=hk.own 0 B hB hz
  have hfr:w.heap.size≤B.b:=by
   rcases hown.1 with h | h
   ·exact absurd h ZlP
   ·exact h
  refine ⟨by rw [Zds],.inr ⟨B.b,B.c,cells,rfl,hfr,by rw [hc,hT]; rfl,by rw [← hn]; exact hb.nc,hb.cm,by rw [hcs,hkk],?_⟩⟩
  apply List.ext_getElem?
  intro t
  have hkp:0<Enc.k α:=Enc.pos
  rcases Nat.lt_or_ge t (r.length*Enc.k α) with hi | hi
  ·rw [List.getElem?_take_of_lt hi,Array.getElem?_toList]
   have hi':t / Enc.k α<r.length:=by rw [Nat.div_lt_iff_lt_mul hkp]; exact hi
   have hj:=Nat.mod_lt t hkp
   have e0:t / Enc.k α*Enc.k α+t % Enc.k α=t:=by rw [Nat.mul_comm]; exact Nat.div_add_mod t _
   have hcl:(c r[t / Enc.k α]).length=Enc.k α:=hf.len _
   obtain ⟨u,hu1,hu2⟩:=hf.at_ r[t / Enc.k α] (t % Enc.k α) _ (List.getElem?_eq_getElem (by rw [hcl]; exact hj))
   obtain ⟨x,x1,_,x3⟩:=hcell (t / Enc.k α) (c r[t / Enc.k α]) (t % Enc.k α) (.v u) (by simp [hi']) (by rw [List.getElem?_eq_getElem (by rw [hcl]; exact hj),hu2])
   obtain ⟨rfl,_⟩:=x3.v_inv
   rw [hkk,e0] at x1
   have hfl:=Zfa (xs:=r) (i:=t / Enc.k α) (x:=r[t / Enc.k α]) (List.getElem?_eq_getElem hi') hu1
   rw [e0] at hfl
   rw [x1,hfl]
  ·rw [List.getElem?_eq_none (by rw [List.length_take]; omega),List.getElem?_eq_none (by rw [Zds]; omega)]
theorem Zr7:ElT Tryz.prog 37 135 (Enc.k YBooking) 32:=ElT.mk' (z:=.agg #[I 0,I 0,I 0,I 0]) Tryz.underlying37 (by kernel_rfl) rfl
section
variable {n:YNetwork} (hf:ZZ n) {w:World} {O:Nat→Prop} (ht:Tab w O) {v0 v1:Value} (h0:RepC w (SW w) (.sl (n.legs.map cLeg)) v0) (h1:RepC w (SW w) (.sl (n.off.map cInt)) v1)
include hf ht h0 h1
theorem ZpA {W:World} (hu:Up w W) {xs:List YBooking} (hx:xs.length≤1048576) {lv:Value} (hl:RepC W (SW W) (.sl (xs.map cBooking)) lv):
 Calls Tryz.prog 139 #[.agg #[v0,v1,I n.change],lv] W fun e w'=>e=.returned (.bool (Zr n xs))∧Up W w':=by
 have o0:=h0.one (by simp) (by simp)
 have o1:=h1.one (by simp) (by simp)
 have hC:=CT.ok (P:=Tryz.prog) (ZfM hf hx)
 simp only [CT.f,CT.args,CT.m0,CT.res,CT.mem] at hC
 refine CallM.valT hC (Zop ht (O':=fun _=>False) ⟨hu.os,hu.tape,hu.output,hu.size,fun b hb _=>hu.block b hb⟩ fun b _ h=>h.elim) rfl fun i p hp=>?_
 match i with
 | 0=>
  obtain rfl:_=p:=Option.some.inj hp
  refine ⟨_,rfl,.ag _ _ rfl (fun j x hx=>?_) fun j p x hp hx=>?_⟩
  ·match j with
   | 0=>obtain rfl:_=x:=Option.some.inj hx
        exact o0
   | 1=>obtain rfl:_=x:=Option.some.inj hx
        exact o1
   | 2=>obtain rfl:_=x:=Option.some.inj hx
        rfl
   | j+3=>simp at hx
  ·match j with
   | 0=>obtain rfl:_=x:=Option.some.inj hx
        obtain rfl:_=p:=Option.some.inj hp
        exact .c (ZgE h0 hu)
   | 1=>obtain rfl:_=x:=Option.some.inj hx
        obtain rfl:_=p:=Option.some.inj hp
        exact .c (ZgE h1 hu)
   | 2=>obtain rfl:_=x:=Option.some.inj hx
        obtain rfl:_=p:=Option.some.inj hp
        exact Zoa _ rfl
   | j+3=>simp at hx
 | 1=>
  obtain rfl:_=p:=Option.some.inj hp
  exact ⟨_,rfl,.c hl⟩
 | i+2=>simp at hp
omit hf h0 h1 in
theorem Zm1 {W:World} (hu:Up w W) {xs:List YBooking} (hx:xs.length≤1048576) {lv:Value} (hl:RepC W (SW W) (.sl (xs.map cBooking)) lv):
 Calls Tryz.prog 169 #[lv] W fun e w'=>∃ v,e=.returned v∧Own w' W.heap.size 135 v xs∧Up W w':=by
 have hm:Zab xs=some xs:=by
  unfold Zab
  simp only [List.length_nil,chk0 hx (show 32≤1024 by omega),Option.bind_some,List.nil_append]
 have hC:=CT.ok (P:=Tryz.prog) hm
 simp only [CT.f,CT.args,CT.m0,CT.res,CT.mem] at hC
 refine CallM.ownT hC (Zop ht (O':=fun _=>False) ⟨hu.os,hu.tape,hu.output,hu.size,fun b hb _=>hu.block b hb⟩ fun b _ h=>h.elim) rfl fun i p hp=>?_
 match i with
 | 0=>
  obtain rfl:_=p:=Option.some.inj hp
  exact ⟨_,rfl,.c hl⟩
 | i+1=>simp at hp
end
set_option linter.unusedSectionVars false
theorem ZiD {w w':World} {b o:Nat} {v:Value} (h:w.cell? ⟨b,o,none⟩=some v) (hb:b<w.heap.size) (hu:Up w w'):w'.cell? ⟨b,o,none⟩=some v:=(hu.cell (p:=⟨b,o,none⟩) hb).trans h
theorem ZqU {w W:World} {O:Nat→Prop} (h:Tab w O) (hu:Up w W) {B:Nat} (hB:w.heap.size≤B):Tab W (fun b=>B≤b):=by
 obtain ⟨T,h1,h2⟩:=h
 exact ⟨T,fun b hb=>⟨Nat.lt_of_lt_of_le (h1 b hb).1 hu.size,fun h=>by have:=(h1 b hb).1; omega⟩,fun w'' hw''=>h2 w'' fun b hb=>(hw'' b hb).trans (hu.block b (h1 b hb).1)⟩
theorem ZpY {w:World} {B Bx:Nat} {v v':Value} {xs:List YBooking} (h:Own w B 135 v xs) (hx:w.heap[Bx]?=some (.cells #[v'] 37 (0,0))):v.ownBlock≠some Bx:=by
 rcases h.2 with ⟨hv,_⟩ | ⟨g,cap,cur,hv,hB,hg,_⟩
 ·rw [hv]; simp [Value.ownBlock]
 ·rw [hv]
  intro e
  have:g=Bx:=by simpa [Value.ownBlock] using e
  subst this
  rw [hg] at hx
  simp at hx
section
variable {n:YNetwork} (hf:ZZ n) {w:World} {O:Nat→Prop} (ht:Tab w O) {v0 v1:Value} (h0:RepC w (SW w) (.sl (n.legs.map cLeg)) v0) (h1:RepC w (SW w) (.sl (n.off.map cInt)) v1)
 {l:List YBooking} (hl:l.length≤1048000) {lv:Value} (hlr:RepC w (SW w) (.sl (l.map cBooking)) lv) (thing weight:Int) {way:List YTrip} (hwl:way.length≤1048576) {A:Option Addr} {wn:Nat} (hwr:Rd w w.heap.size A way)
include hf ht h0 h1 hl hlr hwl hwr
theorem Zqd (hno:¬ (Zr n l=true∧way.length≤20)):
 Calls Tryz.prog 135 #[.agg #[v0,v1,I n.change],lv,I thing,I weight,.slice A way.length wn] w fun e w'=>∃ v,e=.returned (.tuple #[v,.bool false])∧Own w' w.heap.size 135 v l∧Up w w':=by
 have hA:=fun (W:World) (hu:Up w W)=>ZpA hf ht h0 h1 hu (xs:=l) (by omega) (ZgE hlr hu)
 have hC:=fun (W:World) (hu:Up w W)=>Zm1 ht hu (xs:=l) (by omega) (ZgE hlr hu)
 have HA:Hid _:=hA
 have HC:Hid _:=hC
 clear hA hC hf ht h0 h1 hlr hwr
 by_cases hb:Zr n l=true
 ·have h20:(20:Int)<(way.length:Int):=by
   rcases Nat.lt_or_ge 20 way.length with h | h
   ·omega
   ·exact absurd ⟨hb,h⟩ hno
  have Hb:Hid (Zr n l=true):=hb
  clear hno hb
  go_enter Tryz.func135,Tryz.ntmps135
  go_wp2_with (first
   | (go_at_call 139; refine (HA.out _ (by (repeat (first | exact Up.rfl' _ | (refine Up.al _ ?_) | (refine Up.dr _ ?_) | (refine Up.dr1 ?_) | (refine Up.sc ?_ (by first | exact Nat.le_refl _ | (simp; done) | omega) _) | (refine Up.step (by assumption) ?_))))).mono ?_; rintro e w1 ⟨rfl,hu1⟩; rw [Hb.out])
   | (go_at_call 169; refine (HC.out _ (by (repeat (first | exact Up.rfl' _ | (refine Up.al _ ?_) | (refine Up.dr _ ?_) | (refine Up.dr1 ?_) | (refine Up.sc ?_ (by first | exact Nat.le_refl _ | (simp; done) | omega) _) | (refine Up.step (by assumption) ?_))))).mono ?_; rintro e w2 ⟨v2,rfl,ho2,hu2⟩))
  go_ret2
  exact ⟨v2,rfl,ho2.down (by (repeat (first | exact Up.rfl' _ | (refine Up.al _ ?_) | (refine Up.dr _ ?_) | (refine Up.dr1 ?_) | (refine Up.sc ?_ (by first | exact Nat.le_refl _ | (simp; done) | omega) _) | (refine Up.step (by assumption) ?_)))),by (repeat (first | exact Up.rfl' _ | (refine Up.al _ ?_) | (refine Up.dr _ ?_) | (refine Up.dr1 ?_) | (refine Up.sc ?_ (by first | exact Nat.le_refl _ | (simp; done) | omega) _) | (refine Up.step (by assumption) ?_)))⟩
 ·have hb':Zr n l=false:=by simpa using hb
  have Hb:Hid (Zr n l=false):=hb'
  clear hno hb hb'
  go_enter Tryz.func135,Tryz.ntmps135
  go_wp2_with (first
   | (go_at_call 139; refine (HA.out _ (by (repeat (first | exact Up.rfl' _ | (refine Up.al _ ?_) | (refine Up.dr _ ?_) | (refine Up.dr1 ?_) | (refine Up.sc ?_ (by first | exact Nat.le_refl _ | (simp; done) | omega) _) | (refine Up.step (by assumption) ?_))))).mono ?_; rintro e w1 ⟨rfl,hu1⟩; rw [Hb.out])
   | (go_at_call 169; refine (HC.out _ (by (repeat (first | exact Up.rfl' _ | (refine Up.al _ ?_) | (refine Up.dr _ ?_) | (refine Up.dr1 ?_) | (refine Up.sc ?_ (by first | exact Nat.le_refl _ | (simp; done) | omega) _) | (refine Up.step (by assumption) ?_))))).mono ?_; rintro e w2 ⟨v2,rfl,ho2,hu2⟩))
  go_ret2
  exact ⟨v2,rfl,ho2.down (by (repeat (first | exact Up.rfl' _ | (refine Up.al _ ?_) | (refine Up.dr _ ?_) | (refine Up.dr1 ?_) | (refine Up.sc ?_ (by first | exact Nat.le_refl _ | (simp; done) | omega) _) | (refine Up.step (by assumption) ?_)))),by (repeat (first | exact Up.rfl' _ | (refine Up.al _ ?_) | (refine Up.dr _ ?_) | (refine Up.dr1 ?_) | (refine Up.sc ?_ (by first | exact Nat.le_refl _ | (simp; done) | omega) _) | (refine Up.step (by assumption) ?_)))⟩
theorem ZoC (hb:Zr n l=true) (h20:way.length≤20):
 Calls Tryz.prog 135 #[.agg #[v0,v1,I n.change],lv,I thing,I weight,.slice A way.length wn] w fun e w'=>∃ v ys ok,e=.returned (.tuple #[v,.bool ok])∧Own w' w.heap.size 135 v ys∧Up w w'∧Zx n l thing weight way=some (ys,ok):=by
 have hlb:=(ZV hb).2
 have hA:=fun (W:World) (hu:Up w W) (xs:List YBooking) (hx:xs.length≤1048576) (lv:Value) (hl:RepC W (SW W) (.sl (xs.map cBooking)) lv)=>ZpA hf ht h0 h1 hu (xs:=xs) hx hl
 have hC:=fun (W:World) (hu:Up w W)=>Zm1 ht hu (xs:=l) (by omega) (ZgE hlr hu)
 have HA:Hid _:=hA
 have HC:Hid _:=hC
 have HL:Hid (∀ W,Up w W→RepC W (SW W) (.sl (l.map cBooking)) lv):=fun W hu=>ZgE hlr hu
 have HW:Hid (Rd w w.heap.size A way):=hwr
 have HF:Hid (ZZ n):=hf
 have HT:Hid (Tab w O):=ht
 have Hb:Hid (Zr n l=true):=hb
 have h20z:¬ (20:Int)<(way.length:Int):=by omega
 clear hA hC hf ht h0 h1 hlr hwr hb
 go_enter Tryz.func135,Tryz.ntmps135
 go_wp2_with (first
  | (go_at_call 139; refine (HA.out _ (by (repeat (first | exact Up.rfl' _ | (refine Up.al _ ?_) | (refine Up.dr _ ?_) | (refine Up.dr1 ?_) | (refine Up.sc ?_ (by first | exact Nat.le_refl _ | (simp; done) | omega) _) | (refine Up.step (by assumption) ?_)))) l (by omega) lv (HL.out _ (by (repeat (first | exact Up.rfl' _ | (refine Up.al _ ?_) | (refine Up.dr _ ?_) | (refine Up.dr1 ?_) | (refine Up.sc ?_ (by first | exact Nat.le_refl _ | (simp; done) | omega) _) | (refine Up.step (by assumption) ?_)))))).mono ?_; rintro e w1 ⟨rfl,hu1⟩; rw [Hb.out])
  | (go_at_call 169; refine (HC.out _ (by (repeat (first | exact Up.rfl' _ | (refine Up.al _ ?_) | (refine Up.dr _ ?_) | (refine Up.dr1 ?_) | (refine Up.sc ?_ (by first | exact Nat.le_refl _ | (simp; done) | omega) _) | (refine Up.step (by assumption) ?_))))).mono ?_; rintro e w2 ⟨v2,rfl,ho2,hu2⟩; obtain ⟨A2,c2,rfl,hc2,_⟩:=ho2.form))
 have hub:Up (w.alloc (.cells #[v0,v1,I n.change] 35)) w2:=by (repeat (first | exact Up.rfl' _ | (refine Up.al _ ?_) | (refine Up.dr _ ?_) | (refine Up.dr1 ?_) | (refine Up.sc ?_ (by first | exact Nat.le_refl _ | (simp; done) | omega) _) | (refine Up.step (by assumption) ?_)))
 have hown:Own w2 (w.heap.size+1) 135 (.slice A2 l.length c2) l:=by
  have:=ho2.down (w0:=w.alloc (.cells #[v0,v1,I n.change] 35)) (by (repeat (first | exact Up.rfl' _ | (refine Up.al _ ?_) | (refine Up.dr _ ?_) | (refine Up.dr1 ?_) | (refine Up.sc ?_ (by first | exact Nat.le_refl _ | (simp; done) | omega) _) | (refine Up.step (by assumption) ?_))))
  simpa using this
 have HUB:=Lib.hid hub
 have HO:=Lib.hid hown
 clear ho2 hc2 hown
 go_loopw [30] (fun vi wr=>∃ (i:Nat) (v:Value),vi=.int .i64 i∧i≤way.length∧Own wr (w.heap.size+1) 135 v (l++Zdc thing weight (way.take i))∧wr.heap[w2.heap.size]?=some (.cells #[v] 37 (0,0))∧Up (w.alloc (.cells #[v0,v1,I n.change] 35)) wr) (fun vi _=>way.length-(intOf vi).toNat)
 case atStart=>
  refine ⟨0,_,by go_num,by omega,?_,heap_alloc_new _ _,Up.al _ HUB.out⟩
  simp only [List.take_zero,Zdc,List.map_nil,List.append_nil]
  exact HO.out.up (Up.al _ (Up.rfl' _))
 case round=>
  obtain ⟨i,v,rfl,hi,hv,hx,hwr⟩:=hrel
  obtain ⟨A3,c3,rfl,hc3,hm3⟩:=hv.form
  have hnl:(l++Zdc thing weight (way.take i)).length=l.length+i:=by simp [Zdc]; omega
  rw [hnl] at hv hx
  have hcx:wr.cell? ⟨w2.heap.size,0,none⟩=some (.slice A3 (l.length+i) c3):=by rw [cell_of_row wr _ 0 _ _ (0,0) hx]; rfl
  have hz:w2.heap.size<wr.heap.size:=(Array.getElem?_eq_some_iff.1 hx).1
  have hz1:wr.heap.size≠w2.heap.size:=by omega
  have hz2:w2.heap.size≠wr.heap.size:=by omega
  have HV:=Lib.hid hv
  have HX:=Lib.hid hx
  have HWR:=Lib.hid hwr
  have HNL:=Lib.hid hnl
  clear hv hx hwr
  clear hnl hc3 hm3
  by_cases hlt:i<way.length
  ·obtain ⟨b,off,rfl,hbb,hcc⟩:=(HW.out.up (Up.step (w.alloc (.cells #[v0,v1,I n.change] 35) |> fun _=>HWR.out) (Up.al _ (Up.rfl' w)))).at_ (List.getElem?_eq_getElem hlt)
   have d0:wr.cell? ⟨b,off+i*2,none⟩=some (I way[i].leg):=hcc 0 _ rfl
   have d1:wr.cell? ⟨b,off+i*2+1,none⟩=some (I way[i].day):=hcc 1 _ rfl
   clear hcc
   have hrd1:Rd ((wr.alloc (.cells #[I way[i].leg,I way[i].day] 55)).alloc (.cells #[I thing,I way[i].leg,I way[i].day,I weight] 135)) (wr.heap.size+2) (some ⟨wr.heap.size+1,0,none⟩) [(⟨thing,way[i],weight⟩:YBooking)]:=by
    have e:(wr.alloc (.cells #[I way[i].leg,I way[i].day] 55)).heap.size=wr.heap.size+1:=by simp
    have h:=Rd.one (wr.alloc (.cells #[I way[i].leg,I way[i].day] 55)) 135 (⟨thing,way[i],weight⟩:YBooking) (wr.heap.size+2) (by rw [e]; omega)
    rw [e] at h
    exact h
   have HR1:=Lib.hid hrd1
   clear hrd1
   have hlen:=HNL.out
   have hsz:w.heap.size+1≤wr.heap.size:=by have:=HWR.out.size; simpa using this
   go_wp2_with (at_builtin; refine ZB Zr7 rfl (.tmp 34) (.tmp 39) rfl (base:=w.heap.size+1) (ys:=l++Zdc thing weight (way.take i)) (xs:=[(⟨thing,way[i],weight⟩:YBooking)]) (by rfl) (HV.out.up (by (repeat (first | exact Up.rfl' _ | (refine Up.al _ ?_) | (refine Up.dr _ ?_) | (refine Up.dr1 ?_) | (refine Up.sc ?_ (by first | exact Nat.le_refl _ | (simp; done) | omega) _) | (refine Up.step (by assumption) ?_))))) 1 (by rfl) rfl HR1.out (by simp only [List.length_cons,List.length_nil]; omega) (by unfold maxLen; simp only [List.length_cons,List.length_nil]; omega) (by simp; omega) ?_; intro v' w3 ho3 hg3 _ hu3; refine Hid.out ?_)
   have hx3:w3.heap[w2.heap.size]?=some (.cells #[.slice A3 (l.length+i) c3] 37 (0,0)):=by
    rw [hg3.block _ (by simp; omega) (fun e=>ZpY HV.out HX.out e.symm)]
    exact ((Up.al _ (Up.al _ (Up.rfl' wr))).block _ hz).trans HX.out
   obtain ⟨A4,c4,rfl,hc4,hm4⟩:=ho3.form
   have hl4:(l++Zdc thing weight (way.take i)++[(⟨thing,way[i],weight⟩:YBooking)]).length=l.length+(i+1):=by simp [Zdc]; omega
   rw [hl4] at ho3 ⊢
   clear hl4
   have hnews:Zdc thing weight (way.take (i+1))=Zdc thing weight (way.take i)++[⟨thing,way[i],weight⟩]:=by
    unfold Zdc
    rw [List.take_succ_eq_append_getElem hlt,List.map_append]; rfl
   have hcell3:w3.cell? ⟨w2.heap.size,0,none⟩=some (.slice A3 (l.length+i) c3):=by rw [cell_of_row w3 _ 0 _ _ (0,0) hx3]; rfl
   have hfr3:w3.frozen? ⟨w2.heap.size,0,none⟩=false:=by simp [World.frozen?,hx3]
   have hwr3:Up (w.alloc (.cells #[v0,v1,I n.change] 35)) w3:=hu3 _ (by simp) (Up.al _ (Up.al _ HWR.out))
   have HX3:=Lib.hid hx3
   have HO3:=Lib.hid ho3
   have HN:=Lib.hid hnews
   have HW3:=Lib.hid hwr3
   clear hx3 ho3 hg3 hu3 hnews hwr3 hc4 hm4 hlen
   refine Lib.hid ?_
   go_wp2
   refine ⟨⟨i+1,_,by go_num,by omega,?_,heap_setCell_same w3 _ 0 _ _ _ HX3.out,Up.sc HW3.out (by have:=HUB.out.size; simp at this ⊢; omega) _⟩,by simp [intOf]; omega⟩
   rw [HN.out,← List.append_assoc]
   exact HO3.out.grown (row:=some w2.heap.size) ⟨rfl,rfl,rfl,by simp,fun k hk hne=>heap_setCell_other _ _ _ _ (fun e=>hne (by rw [e]))⟩ (.inr (ZpY HO3.out HX3.out))
  ·have hie:i=way.length:=by omega
   subst hie
   have hst:=ZqN HV.out HX.out (by rw [HNL.out]; omega) (ZqU HT.out (Up.step HWR.out (Up.al _ (Up.rfl' w))) (by omega)) (fun b h=>h)
   have hge:¬ (way.length:Int)<(way.length:Int):=by omega
   go_wp2_with (go_at_call 200; refine hst.mono ?_; rintro e w4 ⟨rfl,ys,hp,hs,ho4,hu4⟩; refine Hid.out ?_)
   rw [List.take_length] at hp
   have hyl:ys.length=l.length+way.length:=by rw [hp.length_eq]; simp [Zdc]
   have hsp:=ZfV HF.out hl thing weight hp hs
   have hup4:Up (w.alloc (.cells #[v0,v1,I n.change] 35)) w4:=by
    have h:=HWR.out
    exact ⟨hu4.os.trans h.os,hu4.tape.trans h.tape,hu4.output.trans h.output,Nat.le_trans h.size hu4.size,fun b hb=>(hu4.block b (Nat.lt_of_lt_of_le hb h.size) (fun hh=>by simp at hb; omega)).trans (h.block b hb)⟩
   have e0:w4.cell? ⟨w.heap.size,0,none⟩=some v0:=ZiD (by simp) (by simp) hup4
   have e1:w4.cell? ⟨w.heap.size,1,none⟩=some v1:=ZiD (by simp) (by simp) hup4
   have e2:w4.cell? ⟨w.heap.size,2,none⟩=some (I n.change):=ZiD (by simp) (by simp) hup4
   have ex:w4.heap[w2.heap.size]?=some (.cells #[.slice A3 (l.length+way.length) c3] 37 (0,0)):=(hu4.block _ hz (fun hh=>hh.2 rfl)).trans HX.out
   have exc:w4.cell? ⟨w2.heap.size,0,none⟩=some (.slice A3 (l.length+way.length) c3):=by rw [cell_of_row w4 _ 0 _ _ (0,0) ex]; rfl
   have hrp:RepC w4 (SW w4) (.sl (ys.map cBooking)) (.slice A3 (l.length+way.length) c3):=by
    rw [← hyl] at ho4 ⊢
    obtain ⟨A5,c5,e5,h5,h6⟩:=ho4.form
    obtain ⟨rfl,rfl⟩:A3=A5∧c3=c5:=by simpa using e5
    exact Zn6 (c:=cBooking) id (by rw [List.map_id]; exact ho4.rd) h5 h6
   have hupw:Up w w4:=Up.step hup4 (Up.al _ (Up.rfl' w))
   have hA:=HA.out w4 hupw ys (by omega) _ hrp
   have HSP:=Lib.hid hsp
   have HO4:=Lib.hid ho4
   have HUP:=Lib.hid hup4
   have HUPW:=Lib.hid hupw
   have HZ4:Hid (w2.heap.size<w4.heap.size):=Nat.lt_of_lt_of_le hz hu4.size
   clear hst hp hs ho4 hu4 hyl hsp hup4 ex hrp hupw
   refine Lib.hid ?_
   cases hby:Zr n ys with
   | true=>
    rw [hby] at hA
    have HBY:=Lib.hid hby
    clear hby
    go_wp2_with (first
     | (go_at_call 139; refine hA.mono ?_; rintro e w5 ⟨rfl,hu5⟩; have exc5:=ZiD exc HZ4.out hu5))
    go_ret2
    exact ⟨_,ys,true,rfl,(HO4.out.more (by omega)).up hu5,Up.step hu5 (Up.step HUP.out (Up.al _ (Up.rfl' w))),by rw [HSP.out,if_pos ⟨Hb.out,h20,HBY.out⟩]⟩
   | false=>
    rw [hby] at hA
    have HBY:=Lib.hid hby
    clear hby
    go_wp2_with (first
     | (go_at_call 139; refine hA.mono ?_; rintro e w5 ⟨rfl,hu5⟩)
     | (go_at_call 169; refine (HC.out _ (Up.step hu5 HUPW.out)).mono ?_; rintro e w6 ⟨v6,rfl,ho6,hu6⟩))
    go_ret2
    exact ⟨v6,l,false,rfl,ho6.down (Up.step hu5 HUPW.out),Up.step hu6 (Up.step hu5 HUPW.out),by rw [HSP.out,if_neg (fun h=>by rw [HBY.out] at h; cases h.2.2)]⟩
end
end Go.Proofs.YtmcdjilbkmhfoaaGreat
namespace Go.Proofs.YtmcdjilbkmhfoaaGreat
set_option maxRecDepth 10000
open Go.RowKit Go.Lib
set_option linter.unusedVariables false
set_option linter.unusedSimpArgs false
def fitB (n:YNetwork):Bool:=decide (n.legs.length≤1048576) && decide (n.off.length≤1048576) && n.legs.all fun l=>decide (l.from_.size≤B60) && decide (l.to_.size≤B60)
theorem Zlu {n:YNetwork}:fitB n=true↔ZZ n:=by
 unfold fitB
 simp only [Bool.and_eq_true,decide_eq_true_iff,List.all_eq_true]
 exact ⟨fun h=>⟨h.1.1,h.1.2,fun l hl=>h.2 l hl⟩,fun h=>⟨⟨h.legs,h.off⟩,fun l hl=>h.leg l hl⟩⟩
def ZaB (n:YNetwork) (l:List YBooking) (thing:Int) (weight:Int) (way:List YTrip):Option ((List YBooking) × Bool):=
 if fitB n=true∧l.length≤1048000∧way.length≤1048576 then Zx n l thing weight way else none
theorem arr5 {vs:Array Value} {x0 x1 x2 x3 x4:Value} (h:vs.size=5) (h0:vs[0]?=some x0) (h1:vs[1]?=some x1) (h2:vs[2]?=some x2) (h3:vs[3]?=some x3) (h4:vs[4]?=some x4):vs=#[x0,x1,x2,x3,x4]:=by
 apply Array.ext (by simp [h])
 intro i hi hj
 have a0:=(Array.getElem?_eq_some_iff.1 h0).2
 have a1:=(Array.getElem?_eq_some_iff.1 h1).2
 have a2:=(Array.getElem?_eq_some_iff.1 h2).2
 have a3:=(Array.getElem?_eq_some_iff.1 h3).2
 have a4:=(Array.getElem?_eq_some_iff.1 h4).2
 match i,hi with
 | 0,_=>simpa using a0
 | 1,_=>simpa using a1
 | 2,_=>simpa using a2
 | 3,_=>simpa using a3
 | 4,_=>simpa using a4
 | i+5,hi=>omega
theorem ZhO (n:YNetwork) (l:List YBooking) (thing:Int) (weight:Int) (way:List YTrip) {r:(List YBooking) × Bool} (H:ZaB n l thing weight way=some r):CallM Tryz.prog 135 [.ag (cNetwork n),.sl (l.map cBooking),vi thing,vi weight,.sl (way.map cTrip)] [] (.tu [.ms 0,vb r.2]) [some ⟨.of 135,4,r.1.map cBooking⟩]:=by
 unfold ZaB at H
 split at H
 case isFalse=>cases H
 rename_i hok
 obtain ⟨hf,hln,hwn⟩:=hok
 have hf:=Zlu.1 hf
 intro S β w vs ω hk hl ha
 obtain ⟨x0,q0,r0⟩:=ha 0 _ rfl
 obtain ⟨x1,q1,r1⟩:=ha 1 _ rfl
 obtain ⟨x2,q2,r2⟩:=ha 2 _ rfl
 obtain ⟨x3,q3,r3⟩:=ha 3 _ rfl
 obtain ⟨x4,q4,r4⟩:=ha 4 _ rfl
 obtain rfl:=arr5 hl q0 q1 q2 q3 q4
 obtain rfl:=Zob r2
 obtain rfl:=Zob r3
 obtain ⟨us,rfl,hul,hu1,hur⟩:=r0.ag_inv
 have hul':us.size=3:=hul
 have z0:us[0]?=some us[0]:=Array.getElem?_eq_getElem (by omega)
 have z1:us[1]?=some us[1]:=Array.getElem?_eq_getElem (by omega)
 have z2:us[2]?=some us[2]:=Array.getElem?_eq_getElem (by omega)
 have hus:us=#[us[0],us[1],us[2]]:=ZrV hul' z0 z1 z2
 have w0:=(hur 0 (.sl (n.legs.map cLeg)) _ rfl z0).sl_inv
 have w1:=(hur 1 (.sl (n.off.map cInt)) _ rfl z1).sl_inv
 have w2:=Zob (hur 2 (vi n.change) _ rfl z2)
 have w3:=r1.sl_inv
 have w4:=r4.sl_inv
 have up:∀ {p:PV} {x:Value},RepC w S p x→RepC w (SW w) p x:=fun h=>h.ext (fun b hb=>hk.sz b hb) fun _ _ _=>rfl
 obtain ⟨A,wn,rfl,_,_,hrd⟩:=ZqE (id:YTrip→YTrip) (c:=cTrip) hk.sz w4
 rw [List.map_id] at hrd
 have hmain:Calls Tryz.prog 135 #[.agg #[us[0],us[1],I n.change],x1,I thing,I weight,.slice A way.length wn] w fun e w'=>∃ v ys ok,e=.returned (.tuple #[v,.bool ok])∧Own w' w.heap.size 135 v ys∧Up w w'∧Zx n l thing weight way=some (ys,ok):=by
  by_cases hno:Zr n l=true∧way.length≤20
  ·exact ZoC hf hk.tab (up w0) (up w1) hln (up w3) thing weight hwn hrd hno.1 hno.2
  ·refine (Zqd hf hk.tab (up w0) (up w1) hln (up w3) thing weight hwn hrd hno).mono ?_
   rintro e w' ⟨v,rfl,ho,hu⟩
   refine ⟨v,l,false,rfl,ho,hu,?_⟩
   unfold Zx
   rw [Zfl (by omega),Option.bind_some,Zb2 hf (by omega),Option.bind_some]
   by_cases hb:Zr n l=true
   ·rw [hb,decide_eq_true (show 20<(way.length:Int) by
     rcases Nat.lt_or_ge 20 way.length with h | h
     ·omega
     ·exact absurd ⟨hb,h⟩ hno)]; rfl
   ·have hb':Zr n l=false:=by simpa using hb
    rw [hb']; rfl
 rw [hus,w2]
 refine hmain.mono ?_
 rintro e w' ⟨v,ys,ok,rfl,ho,hu,hsp⟩
 rw [hsp] at H
 obtain rfl:=Option.some.inj H
 obtain ⟨E',h1,h2,h3,h4,h5⟩:=ZjN (c:=cBooking) hk ho hu (fun x=>⟨rfl,fun j p hj=>by
  obtain ⟨u,hu1,hu2⟩:=Zhe.at_ (c:=cBooking) (g:=(id:YBooking→YBooking)) x j p hj
  exact ⟨u,hu1,Enc.one _ u (List.mem_of_getElem? hu1),fun w E=>by rw [hu2]; exact Zoa _ (Enc.one _ u (List.mem_of_getElem? hu1))⟩⟩)
 refine ⟨_,E',rfl,h1,h2,h3,h4,.tu _ _ rfl fun j p x hp hx=>?_⟩
 match j with
 | 0=>obtain rfl:_=p:=Option.some.inj hp
      obtain rfl:_=x:=Option.some.inj hx
      exact h5
 | 1=>obtain rfl:_=p:=Option.some.inj hp
      obtain rfl:_=x:=Option.some.inj hx
      exact Zoa _ rfl
 | j+2=>simp at hp
instance (n:YNetwork) (l:List YBooking) (thing:Int) (weight:Int) (way:List YTrip):CT Tryz.prog (ZaB n l thing weight way):=⟨135,[.ag (cNetwork n),.sl (l.map cBooking),vi thing,vi weight,.sl (way.map cTrip)],[],fun r=>.tu [.ms 0,vb r.2],fun r=>[some ⟨.of 135,4,r.1.map cBooking⟩],ZhO n l thing weight way⟩
end Go.Proofs.YtmcdjilbkmhfoaaGreat
namespace Go.Proofs.YtmcdjilbkmhfoaaGreat
set_option maxRecDepth 10000
open Go.RowKit
set_option linter.unusedVariables false
theorem CallM.frz {P:Program} {f:FuncId} {args:List PV} {T:TypeId} {k:Nat} {es:List (List PV)} (h:CallM P f args [] (.ms 0) [some ⟨T,k,es⟩]) (hes:∀ cs∈es,∀ p∈cs,isC1 p=true):CallM P f args [] (.sl es) []:=by
 intro S β w vs ω hk0 hl ha
 refine (h S β w vs ω hk0 hl ha).mono ?_
 rintro e w' ⟨v,E',rfl,hk,hS1,hS2,_,hr⟩
 obtain ⟨B,hB,hb,rfl⟩:=hr.ms_inv hk (l:=0) rfl
 have hkk:=hb.k
 have hn:=hb.n
 simp only at hkk hn
 have hβ:∀ l,β l=none:=fun l=>by
  cases h:β l with
  | none=>rfl
  | some B0=>obtain ⟨mb,hm⟩:=hk0.dom l B0 h; simp at hm
 let S':Nat→Prop:=fun b=>E'.S b∨(B.z=false∧b=B.b)
 have hok:Ok w (own0 β) (E1 S' (fun _=>none) 0) w' []:=
  ⟨hk.up,fun b hb'=>by
   rcases hb' with h | ⟨hz,rfl⟩
   ·exact hk.sz b h
   ·exact (hk.own 0 B hB hz).2.1,fun l B h=>(by cases h),fun l l' B B' h=>(by cases h),fun l h=>absurd h (Nat.not_lt_zero l),fun l B h=>(by cases h),fun l mb h=>(by simp at h),fun l B h=>(by cases h),hk.tab,fun _ _ h=>h.elim⟩
 have hnew:B.z=false→S B.b∨w.heap.size≤B.b∨own0 β B.b:=fun hz=>by
  rcases (hk.own 0 B hB hz).1 with h | h
  ·exact .inr (.inr h)
  ·exact .inr (.inl h)
 refine ⟨B.sv,E1 S' (fun _=>none) 0,rfl,hok,fun b hb'=>.inl (hS1 b hb'),fun b hb'=>?_,⟨fun l B h=>absurd h (Nat.not_lt_zero l),fun _ _ h=>h.elim⟩,.c ?_⟩
 ·rcases hb' with h | ⟨hz,rfl⟩
  ·exact hS2 b h
  ·exact hnew hz
 ·cases hz:B.z with
  | true=>
   have h0:es=[]:=hb.nil hz
   subst h0
   have hsv:B.sv=.slice none 0 0:=by simp [Blk.sv,hz]
   rw [hsv]
   exact .nil _ _
  | false=>
   have hsv:B.sv=.slice (some ⟨B.b,0,none⟩) es.length B.c:=by simp [Blk.sv,hz,hn]
   rw [hsv]
   obtain ⟨cells,hc,hcs,hcell⟩:=hb.mem hz
   have hat:∀ (i:Nat) (cs:List PV) (j:Nat) (p:PV),es[i]?=some cs→cs[j]?=some p→∃ x,w'.cell? ⟨B.b,0+i*k+j,none⟩=some x∧x.oneCell'=true∧RepC w' S' p x:=by
    intro i cs j p hi hj
    obtain ⟨x,x1,x2,x3⟩:=hcell i cs j p hi hj
    rw [hkk] at x1
    refine ⟨x,by rw [Nat.zero_add,cell_of_row w' B.b _ cells B.T (0,0) hc,x1],x2,?_⟩
    exact (x3.toC1 (hes cs (List.mem_of_getElem? hi) p (List.mem_of_getElem? hj))).ext (fun b hb=>.inl hb) (fun _ _ _=>rfl)
   exact .sl es B.b 0 k B.c (fun i j=>(w'.cell? ⟨B.b,0+i*k+j,none⟩).getD .nilIface) (.inr ⟨hz,rfl⟩) (by rw [← hkk]; exact hb.pos) (by rw [← hn]; exact hb.nc) hb.cm (fun i cs hi=>by rw [← hkk]; exact hb.es i cs hi)
    (fun i cs j p hi hj=>by obtain ⟨x,x1,_⟩:=hat i cs j p hi hj; rw [x1]; rfl)
    (fun i cs j p hi hj=>by obtain ⟨x,x1,x2,_⟩:=hat i cs j p hi hj; rw [x1]; exact x2)
    (fun i cs j p hi hj=>by obtain ⟨x,x1,_,x3⟩:=hat i cs j p hi hj; rw [x1]; exact x3)
def Zeu (l:List YTrip):Option (List YTrip):=ZA l
theorem Zfy (l:List YTrip) {r:List YTrip} (H:Zeu l=some r):CallM Tryz.prog 137 [.sl (l.map cTrip)] [] (.sl (r.map cTrip)) []:=
 (CT.ok (P:=Tryz.prog) (x:=ZA l) H).frz fun cs hcs p hp=>by
  obtain ⟨x,_,rfl⟩:=List.mem_map.1 hcs
  simp only [cTrip,List.mem_cons,List.not_mem_nil,or_false] at hp
  rcases hp with rfl | rfl <;> rfl
instance (l:List YTrip):CT Tryz.prog (Zeu l):=⟨137,[.sl (l.map cTrip)],[],fun r=>.sl (r.map cTrip),fun r=>[],Zfy l⟩
set_option maxHeartbeats 16000000
def ZfC (n:YNetwork) (leg:Int) (at2_:Int) (s0:Int):Option (Int ⊕ (Unit ⊕ (YTrip × Bool))):=
 cond (decide (s0≤60))
 ((Zdy n leg s0).bind fun y1=>
 cond y1
 ((Zah n (⟨leg,s0⟩:YTrip)).bind fun y2=>
 cond (decide (at2_≤y2))
 (some (.inr (.inr ((⟨leg,s0⟩:YTrip),true))))
 (some (.inl (w64 (s0+1)))))
 (some (.inl (w64 (s0+1)))))
 (some (.inr (.inl ())))
instance (n:YNetwork) (leg:Int) (at2_:Int):LoopE (ZfC n leg at2_):=⟨fun s0=>(.un::vi leg::vi at2_::.be 0 0 0::.un::.un::.be 1 0 0::.un::vi s0::(U 21 [])),fun s0=>[some ⟨.of 35,3,[[.sl (n.legs.map cLeg),.sl (n.off.map cInt),vi n.change]]⟩,some ⟨.of 55,2,[[vi 0,vi 0]]⟩]⟩
def ZfO (n:YNetwork) (leg:Int) (at2_:Int):Option (YTrip × Bool):=
 (iterF (ZfC n leg at2_) NN 0).bind (selim (fun o0=>
 some ((⟨0,0⟩:YTrip),false)) (fun r=>some r))
instance (n:YNetwork) (leg:Int) (at2_:Int):CT Tryz.prog (ZfO n leg at2_):=⟨219,[.ag (cNetwork n),vi leg,vi at2_],[],fun r=>.tu [.ag [vi r.1.leg,vi r.1.day],vb r.2],fun r=>[],fun H=>by replace H:=H0 H; unfold ZfO at H; exact callM_of Tryz.func219 rfl Tryz.ntmps219 Tryz.results219 fun Q hQ hQn=>wk3⟩
def Zev (leg:Int) (at1_:Int) (c0_:YNetwork):Option (YTrip × Bool):=
 (ZfO c0_ leg at1_).bind fun y1=>
 some (y1.1,y1.2)
instance (leg:Int) (at1_:Int) (c0_:YNetwork):CT Tryz.prog (Zev leg at1_ c0_):=⟨218,[vi leg,vi at1_,.rp [.sl (c0_.legs.map cLeg),.sl (c0_.off.map cInt),vi c0_.change]],[],fun r=>.tu [.ag [vi r.1.leg,vi r.1.day],vb r.2],fun r=>[],fun H=>by replace H:=H0 H; unfold Zev at H; exact callM_of Tryz.func218 rfl Tryz.ntmps218 Tryz.results218 fun Q hQ hQn=>wk3⟩
def ZdW (n:YNetwork) (find0_:YNetwork) (at3_:Int) (legs:Int) (y1:List ByteArray) (y2:Int) (s0:Int × (List Int)):Option ((Int × (List Int)) ⊕ (List Int)):=
 cond (decide (s0.1<(y1.length:Int)))
 ((chk (appOk ((s0.2:List Int).length+([(-1)]:List Int).length) 8)).bind fun _=>
 some (.inl ((w64 (s0.1+1)),((s0.2:List Int)++[(-1)]))))
 (some (.inr s0.2))
instance (n:YNetwork) (find0_:YNetwork) (at3_:Int) (legs:Int) (y1:List ByteArray) (y2:Int):LoopE (ZdW n find0_ at3_ legs y1 y2):=⟨fun s0=>(.un::.fn 218 [.rp [.sl (find0_.legs.map cLeg),.sl (find0_.off.map cInt),vi find0_.change]]::.un::vi at3_::vi legs::.be 0 0 0::(U 5 (.ms 1::vi y2::.ms 2::(U 26 (vi (y1.length:Int)::vi s0.1::(U 83 [])))))),fun s0=>[some ⟨.of 35,3,[[.sl (n.legs.map cLeg),.sl (n.off.map cInt),vi n.change]]⟩,some ⟨.of 9,1,y1.map cStr⟩,some ⟨.of 3,1,s0.2.map cInt⟩]⟩
def ZdY (n:YNetwork) (find0_:YNetwork) (legs:Int) (y1:List ByteArray) (y2:Int) (s1:Int × (List Int)) (s2:Int × Bool × (List Int)):Option ((Int × Bool × (List Int)) ⊕ (Bool × (List Int))):=
 cond (decide (s2.1<(n.legs.length:Int)))
 ((getI n.legs s2.1).bind fun y4=>
 (Zk y1 y4.from_).bind fun y5=>
 (Zk y1 y4.to_).bind fun y6=>
 (getI s1.2 y5).bind fun y7=>
 cond (decide (y7<0))
 (some (.inl ((w64 (s2.1+1)),s2.2.1,s2.2.2)))
 ((getI s1.2 y5).bind fun y8=>
 (ZbZ n y8 (decide (y5=y2))).bind fun y9=>
 (Zev s2.1 y9 find0_).bind fun y10=>
 cond y10.2
 ((getI s2.2.2 y6).bind fun y11=>
 cond (decide (y11<0))
 ((ZF n y10.1).bind fun y12=>
 (getI s2.2.2 y6).bind fun y13=>
 some (.inl ((w64 (s2.1+1)),true,(s2.2.2.set (Int.toNat y6) y12))))
 ((ZF n y10.1).bind fun y14=>
 (getI s2.2.2 y6).bind fun y15=>
 cond (decide (y14<y15))
 ((ZF n y10.1).bind fun y16=>
 (getI s2.2.2 y6).bind fun y17=>
 some (.inl ((w64 (s2.1+1)),true,(s2.2.2.set (Int.toNat y6) y16))))
 (some (.inl ((w64 (s2.1+1)),s2.2.1,s2.2.2)))))
 (some (.inl ((w64 (s2.1+1)),s2.2.1,s2.2.2)))))
 (some (.inr (s2.2.1,s2.2.2)))
instance (n:YNetwork) (find0_:YNetwork) (legs:Int) (y1:List ByteArray) (y2:Int) (s1:Int × (List Int)):LoopE (ZdY n find0_ legs y1 y2 s1):=⟨fun s2=>(.un::.fn 218 [.rp [.sl (find0_.legs.map cLeg),.sl (find0_.off.map cInt),vi find0_.change]]::.un::.un::vi legs::.be 0 0 0::(U 5 (.ms 1::vi y2::.ms 2::vi s1.1::.ms 3::vb s2.2.1::(U 44 (.sl (n.legs.map cLeg)::vi (n.legs.length:Int)::vi s2.1::(U 61 [])))))),fun s2=>[some ⟨.of 35,3,[[.sl (n.legs.map cLeg),.sl (n.off.map cInt),vi n.change]]⟩,some ⟨.of 9,1,y1.map cStr⟩,some ⟨.of 3,1,s1.2.map cInt⟩,some ⟨.of 3,1,s2.2.2.map cInt⟩]⟩
def ZdX (n:YNetwork) (find0_:YNetwork) (legs:Int) (y1:List ByteArray) (y2:Int) (s1:Int × (List Int)):Option ((Int × (List Int)) ⊕ (List Int)):=
 cond (decide (s1.1<legs))
 ((chk (appOk ((([]:List Int):List Int).length+(s1.2:List Int).length) 8)).bind fun _=>
 (iterF (ZdY n find0_ legs y1 y2 s1) NN (0,false,((([]:List Int):List Int)++s1.2))).bind (fun o2=>
 cond (!o2.1)
 (some (.inr o2.2))
 (some (.inl ((w64 (s1.1+1)),o2.2)))))
 (some (.inr s1.2))
instance (n:YNetwork) (find0_:YNetwork) (legs:Int) (y1:List ByteArray) (y2:Int):LoopE (ZdX n find0_ legs y1 y2):=⟨fun s1=>(.un::.fn 218 [.rp [.sl (find0_.legs.map cLeg),.sl (find0_.off.map cInt),vi find0_.change]]::.un::.un::vi legs::.be 0 0 0::(U 5 (.ms 1::vi y2::.ms 2::vi s1.1::(U 110 [])))),fun s1=>[some ⟨.of 35,3,[[.sl (n.legs.map cLeg),.sl (n.off.map cInt),vi n.change]]⟩,some ⟨.of 9,1,y1.map cStr⟩,some ⟨.of 3,1,s1.2.map cInt⟩]⟩
def ZdA (n:YNetwork) (find0_:YNetwork) (from2_:ByteArray) (at3_:Int) (legs:Int):Option (List Int):=
 (ZD n).bind fun y1=>
 (Zk y1 from2_).bind fun y2=>
 cond (decide (y2<0))
 (some ([]))
 (cond (decide (100000<at3_))
 (some ([]))
 (cond (decide (legs<0))
 (some ([]))
 ((iterF (ZdW n find0_ at3_ legs y1 y2) NN (0,([]:List Int))).bind (fun o0=>
 (getI o0 y2).bind fun y3=>
 (iterF (ZdX n find0_ legs y1 y2) NN (0,(o0.set (Int.toNat y2) (if 0 > at3_ then 0 else at3_)))).bind (fun o1=>
 some o1)))))
instance (n:YNetwork) (find0_:YNetwork) (from2_:ByteArray) (at3_:Int) (legs:Int):CT Tryz.prog (ZdA n find0_ from2_ at3_ legs):=⟨216,[.ag (cNetwork n),.fn 218 [.rp [.sl (find0_.legs.map cLeg),.sl (find0_.off.map cInt),vi find0_.change]],vs from2_,vi at3_,vi legs],[],fun r=>.ms 0,fun r=>[some ⟨.of 3,1,r.map cInt⟩],fun H=>by replace H:=H0 H; unfold ZdA at H; exact callM_of Tryz.func216 rfl Tryz.ntmps216 Tryz.results216 fun Q hQ hQn=>wk3⟩
def ZeX (n:YNetwork):Option YNetwork:=
 some (n)
instance (n:YNetwork):CT Tryz.prog (ZeX n):=⟨152,[.ag (cNetwork n)],[],fun r=>.fn 218 [.rp [.sl (r.legs.map cLeg),.sl (r.off.map cInt),vi r.change]],fun r=>[],fun H=>by replace H:=H0 H; unfold ZeX at H; exact callM_of Tryz.func152 rfl Tryz.ntmps152 Tryz.results152 fun Q hQ hQn=>wk3⟩
def Zdx (n:YNetwork) (from1_:ByteArray) (at2_:Int) (legs:Int):Option (List Int):=
 (Zas n).bind fun y1=>
 cond (!y1)
 (some ([]))
 ((ZeX n).bind fun y2=>
 (ZdA n y2 from1_ at2_ legs).bind fun y3=>
 some y3)
instance (n:YNetwork) (from1_:ByteArray) (at2_:Int) (legs:Int):CT Tryz.prog (Zdx n from1_ at2_ legs):=⟨245,[.ag (cNetwork n),vs from1_,vi at2_,vi legs],[],fun r=>.ms 0,fun r=>[some ⟨.of 3,1,r.map cInt⟩],fun H=>by replace H:=H0 H; unfold Zdx at H; exact callM_of Tryz.func245 rfl Tryz.ntmps245 Tryz.results245 fun Q hQ hQn=>wk3⟩
def Zd2 (n:YNetwork) (from1_:ByteArray) (to_:ByteArray) (at3_:Int):Option Int:=
 (ZD n).bind fun y1=>
 (Zdx n from1_ at3_ (y1.length:Int)).bind fun y2=>
 (Zk y1 to_).bind fun y3=>
 cond (decide (y3<0))
 (some (-1))
 (cond (decide ((y2.length:Int)=0))
 (some (-1))
 ((getI y2 y3).bind fun y4=>
 some y4))
instance (n:YNetwork) (from1_:ByteArray) (to_:ByteArray) (at3_:Int):CT Tryz.prog (Zd2 n from1_ to_ at3_):=⟨203,[.ag (cNetwork n),vs from1_,vs to_,vi at3_],[],fun r=>vi r,fun r=>[],fun H=>by replace H:=H0 H; unfold Zd2 at H; exact callM_of Tryz.func203 rfl Tryz.ntmps203 Tryz.results203 fun Q hQ hQn=>wk3⟩
def Zeg (n:YNetwork) (service:Int) (from2_:ByteArray) (to_:ByteArray) (at4_:Int):Option Int:=
 (Zd2 n from2_ to_ at4_).bind fun y1=>
 cond (decide (y1=(-1)))
 (some (-1))
 ((Zj service 1 3).bind fun y2=>
 cond (!y2)
 (some (-1))
 (cond (decide (1080<(Int.tmod y1 1440)))
 ((getI ([0,1,4]:List Int) (w64 (service-1))).bind fun y3=>
 some (w64 ((w64 ((w64 ((w64 ((IntKind.i64.wrap (Int.tdiv y1 1440))+1))+y3))*1440))+1080)))
 ((getI ([0,1,4]:List Int) (w64 (service-1))).bind fun y4=>
 some (w64 ((w64 ((w64 ((IntKind.i64.wrap (Int.tdiv y1 1440))+y4))*1440))+1080)))))
instance (n:YNetwork) (service:Int) (from2_:ByteArray) (to_:ByteArray) (at4_:Int):CT Tryz.prog (Zeg n service from2_ to_ at4_):=⟨136,[.ag (cNetwork n),vi service,vs from2_,vs to_,vi at4_],[],fun r=>vi r,fun r=>[],fun H=>by replace H:=H0 H; unfold Zeg at H; exact callM_of Tryz.func136 rfl Tryz.ntmps136 Tryz.results136 fun Q hQ hQn=>wk3⟩
set_option linter.unusedSimpArgs false
structure ZsB (w:YWorld) (from_ to_:ByteArray) (service weight:Int) (r:YWorld × Int × Bool) (way:List YTrip) (ys:List YBooking) (due:Int):Prop where
 room:Zq w.network w.bookings w.closed from_ to_ (w.now+1) weight=some (way,true)
 book:Zx w.network w.bookings ((w.orders.length:Int)+1) weight way=some (ys,true)
 prom:Zeg w.network service from_ to_ (w.now+1)=some due
 res:r=(accV w (newO w from_ to_ service weight due way) ys,(w.orders.length:Int)+1,true)
 ne:¬ from_=to_
 ok:WOk (accV w (newO w from_ to_ service weight due way) ys)
def ZaD (w:YNetwork) (o:YOrder):Option ByteArray:=
 cond (decide (o.state=2))
 ((getI o.way o.gone).bind fun y1=>
 (getI w.legs y1.leg).bind fun y2=>
 some y2.to_)
 (some o.place)
instance (w:YNetwork) (o:YOrder):CT Tryz.prog (ZaD w o):=⟨189,[.ag [.sl (w.legs.map cLeg),.sl (w.off.map cInt),vi w.change,.un,.un,.un,.un,.un,.un,.un],.ag (cOrder o)],[],fun r=>vs r,fun r=>[],fun H=>by replace H:=H0 H; unfold ZaD at H; exact callM_of Tryz.func189 rfl Tryz.ntmps189 Tryz.results189 fun Q hQ hQn=>wk3⟩
def Za6 (w:YWorld) (id:Int) (y2:Int) (s0:Int × (List YBooking)):Option ((Int × (List YBooking)) ⊕ (List YBooking)):=
 cond (decide (s0.1<(w.bookings.length:Int)))
 ((getI w.bookings s0.1).bind fun y3=>
 cond (!decide (y3.thing=id))
 ((chk (appOk ((s0.2:List YBooking).length+([y3]:List YBooking).length) 32)).bind fun _=>
 some (.inl ((w64 (s0.1+1)),((s0.2:List YBooking)++[y3]))))
 ((rgI w.orders (w64 (id-1))).bind fun y4=>
 (chk (slOk y2 (y4.way.length:Int) y4.way.length)).bind fun _=>
 (ZaC (subL y4.way y2 (y4.way.length:Int)) y3.trip).bind fun y5=>
 cond (!y5)
 ((chk (appOk ((s0.2:List YBooking).length+([y3]:List YBooking).length) 32)).bind fun _=>
 some (.inl ((w64 (s0.1+1)),((s0.2:List YBooking)++[y3]))))
 (some (.inl ((w64 (s0.1+1)),s0.2)))))
 (some (.inr s0.2))
instance (w:YWorld) (id:Int) (y2:Int):LoopE (Za6 w id y2):=⟨fun s0=>(.be 0 0 0::vi id::.un::.un::.be 3 (Int.toNat (w64 (id-1))) 0::vi y2::.ms 8::(U 22 (.ms 4::vi (w.bookings.length:Int)::vi s0.1::(U 132 [])))),fun s0=>[some ⟨.of 41,10,[[.ms 1,.ms 2,vi w.network.change,.ms 3,.ms 4,.ms 5,vi w.now,.ms 6,.ms 7,vi w.made]]⟩,some ⟨.of 67,6,w.network.legs.map cLeg⟩,some ⟨.of 3,1,w.network.off.map cInt⟩,some ⟨.of 62,11,w.orders.map cOrder⟩,some ⟨.of 135,4,w.bookings.map cBooking⟩,some ⟨.of 55,2,w.closed.map cTrip⟩,some ⟨.of 130,6,w.scans.map cScan⟩,some ⟨.of 3,1,w.skip.map cInt⟩,some ⟨.of 135,4,s0.2.map cBooking⟩]⟩
def Za0 (w:YWorld) (id:Int):Option YWorld:=
 (getI w.orders (w64 (id-1))).bind fun y1=>
 (Zbq y1).bind fun y2=>
 (iterF (Za6 w id y2) NN (0,([]:List YBooking))).bind (fun o0=>
 (rgI w.orders (w64 (id-1))).bind fun y6=>
 (chk (slOk 0 y2 y6.way.length)).bind fun _=>
 (ZA (subL y6.way 0 y2)).bind fun y7=>
 (rgI w.orders (w64 (id-1))).bind fun y8=>
 cond (decide (0<y2))
 ((getI y7 (w64 (y2-1))).bind fun y9=>
 (ZF w.network y9).bind fun y10=>
 (rgI w.orders (w64 (id-1))).bind fun y11=>
 (ZaD w.network (⟨y8.from_,y8.to_,y8.service,y8.weight,y8.at_,y8.due,y7,y8.gone,y8.state,y8.place,y8.ended⟩:YOrder)).bind fun y12=>
 (rgI w.orders (w64 (id-1))).bind fun y13=>
 (ZaF w.network o0 w.closed y12 y8.to_ (if (w64 (y10+w.network.change)) > (w64 (w.now+1)) then (w64 (y10+w.network.change)) else (w64 (w.now+1))) y8.weight).bind fun y14=>
 cond (!y14.2)
 (some (⟨w.network,(w.orders.set (Int.toNat (w64 (id-1))) (⟨y8.from_,y8.to_,y8.service,y8.weight,y8.at_,y8.due,y7,y8.gone,y8.state,y8.place,y8.ended⟩:YOrder)),o0,w.closed,w.now,w.scans,w.skip,w.made⟩:YWorld))
 ((rgI w.orders (w64 (id-1))).bind fun y15=>
 (ZaB w.network o0 id y8.weight y14.1).bind fun y16=>
 cond y16.2
 ((rgI w.orders (w64 (id-1))).bind fun y17=>
 (chk (appOk ((y7:List YTrip).length+(y14.1:List YTrip).length) 16)).bind fun _=>
 some (⟨w.network,(w.orders.set (Int.toNat (w64 (id-1))) (⟨y8.from_,y8.to_,y8.service,y8.weight,y8.at_,y8.due,((y7:List YTrip)++y14.1),y8.gone,y8.state,y8.place,y8.ended⟩:YOrder)),y16.1,w.closed,w.now,w.scans,w.skip,w.made⟩:YWorld))
 (some (⟨w.network,(w.orders.set (Int.toNat (w64 (id-1))) (⟨y8.from_,y8.to_,y8.service,y8.weight,y8.at_,y8.due,y7,y8.gone,y8.state,y8.place,y8.ended⟩:YOrder)),o0,w.closed,w.now,w.scans,w.skip,w.made⟩:YWorld))))
 ((ZaD w.network (⟨y8.from_,y8.to_,y8.service,y8.weight,y8.at_,y8.due,y7,y8.gone,y8.state,y8.place,y8.ended⟩:YOrder)).bind fun y18=>
 (rgI w.orders (w64 (id-1))).bind fun y19=>
 (ZaF w.network o0 w.closed y18 y8.to_ (w64 (w.now+1)) y8.weight).bind fun y20=>
 cond (!y20.2)
 (some (⟨w.network,(w.orders.set (Int.toNat (w64 (id-1))) (⟨y8.from_,y8.to_,y8.service,y8.weight,y8.at_,y8.due,y7,y8.gone,y8.state,y8.place,y8.ended⟩:YOrder)),o0,w.closed,w.now,w.scans,w.skip,w.made⟩:YWorld))
 ((rgI w.orders (w64 (id-1))).bind fun y21=>
 (ZaB w.network o0 id y8.weight y20.1).bind fun y22=>
 cond y22.2
 ((rgI w.orders (w64 (id-1))).bind fun y23=>
 (chk (appOk ((y7:List YTrip).length+(y20.1:List YTrip).length) 16)).bind fun _=>
 some (⟨w.network,(w.orders.set (Int.toNat (w64 (id-1))) (⟨y8.from_,y8.to_,y8.service,y8.weight,y8.at_,y8.due,((y7:List YTrip)++y20.1),y8.gone,y8.state,y8.place,y8.ended⟩:YOrder)),y22.1,w.closed,w.now,w.scans,w.skip,w.made⟩:YWorld))
 (some (⟨w.network,(w.orders.set (Int.toNat (w64 (id-1))) (⟨y8.from_,y8.to_,y8.service,y8.weight,y8.at_,y8.due,y7,y8.gone,y8.state,y8.place,y8.ended⟩:YOrder)),o0,w.closed,w.now,w.scans,w.skip,w.made⟩:YWorld)))))
instance (w:YWorld) (id:Int):CT Tryz.prog (Za0 w id):=⟨128,[.be 0 0 0,vi id],[some ⟨.of 41,10,[[.ms 1,.ms 2,vi w.network.change,.ms 3,.ms 4,.ms 5,vi w.now,.ms 6,.ms 7,vi w.made]]⟩,some ⟨.of 67,6,w.network.legs.map cLeg⟩,some ⟨.of 3,1,w.network.off.map cInt⟩,some ⟨.of 62,11,w.orders.map cOrder⟩,some ⟨.of 135,4,w.bookings.map cBooking⟩,some ⟨.of 55,2,w.closed.map cTrip⟩,some ⟨.of 130,6,w.scans.map cScan⟩,some ⟨.of 3,1,w.skip.map cInt⟩],fun r=>.tu [],fun r=>[some ⟨.of 41,10,[[.ms 1,.ms 2,vi r.network.change,.ms 3,.ms 8,.ms 5,vi r.now,.ms 6,.ms 7,vi r.made]]⟩,some ⟨.of 67,6,r.network.legs.map cLeg⟩,some ⟨.of 3,1,r.network.off.map cInt⟩,some ⟨.of 62,11,r.orders.map cOrder⟩,none,some ⟨.of 55,2,r.closed.map cTrip⟩,some ⟨.of 130,6,r.scans.map cScan⟩,some ⟨.of 3,1,r.skip.map cInt⟩,some ⟨.of 135,4,r.bookings.map cBooking⟩],fun H=>by replace H:=H0 H; unfold Za0 at H; exact callM_of Tryz.func128 rfl Tryz.ntmps128 Tryz.results128 fun Q hQ hQn=>wk3⟩
set_option linter.unusedSectionVars false
def Zbx (n:YNetwork) (o:YOrder):ByteArray:=if o.state=2 then ((o.way[o.gone.toNat]?).map (ZaS n)).getD ⟨#[]⟩ else o.place
def Zu (o:YOrder):List YTrip:=o.way.take (Zh o).toNat
def Ze0 (o:YOrder):List YTrip:=o.way.drop (Zh o).toNat
def atR (n:YNetwork) (now:Int) (o:YOrder):Int:=match (Zu o).getLast? with
 | some t=>if ZbH n t+n.change > now+1 then ZbH n t+n.change else now+1
 | none=>now+1
def Zb3 (w:YWorld) (i:Nat) (o:YOrder):List YBooking:=Zeq ((i+1:Nat):Int) (Ze0 o) w.bookings
def Zay (o:YOrder) (ts:List YTrip):YOrder:=⟨o.from_,o.to_,o.service,o.weight,o.at_,o.due,ts,o.gone,o.state,o.place,o.ended⟩
def newW (w:YWorld) (i:Nat) (o:YOrder) (ts:List YTrip) (bs:List YBooking):YWorld:=⟨w.network,w.orders.set i (Zay o ts),bs,w.closed,w.now,w.scans,w.skip,w.made⟩
def Zp9 (w:YWorld) (i:Nat) (o:YOrder):Prop:=(∃ x,Zq w.network (Zb3 w i o) w.closed (Zbx w.network o) o.to_ (atR w.network w.now o) o.weight=some (x,false))∨
 ∃ way,Zq w.network (Zb3 w i o) w.closed (Zbx w.network o) o.to_ (atR w.network w.now o) o.weight=some (way,true)∧Zx w.network (Zb3 w i o) ((i+1:Nat):Int) o.weight way=some (Zb3 w i o,false)
structure Zpx (w:YWorld) (i:Nat) (o:YOrder) (way:List YTrip) (bs:List YBooking):Prop where
 room:Zq w.network (Zb3 w i o) w.closed (Zbx w.network o) o.to_ (atR w.network w.now o) o.weight=some (way,true)
 book:Zx w.network (Zb3 w i o) ((i+1:Nat):Int) o.weight way=some (bs,true)
 wayR:WayR w.network (Zb3 w i o) w.closed o.weight (Zbx w.network o) o.to_ (atR w.network w.now o) way
 perm:bs.Perm (Zb3 w i o++Zdc ((i+1:Nat):Int) o.weight way)
 books:Zr w.network bs=true
def ZfT (w:YWorld) (i:Nat) (o:YOrder) (w':YWorld):Prop:=(Zp9 w i o∧w'=newW w i o (Zu o) (Zb3 w i o))∨∃ way bs,Zpx w i o way bs∧w'=newW w i o (Zu o++way) bs
section
variable {w:YWorld} {i:Nat} {o:YOrder}
theorem ZnC (hb:w.bookings.length≤1000) (ho:getI w.orders (i:Int)=some o) (hl:o.way.length≤1048576) (hi:i≤1000) {k:Int} (hk:0≤k∧k≤o.way.length):
 iterF (Za6 w ((i+1:Nat):Int) k) NN (0,[])=some (Zeq ((i+1:Nat):Int) (o.way.drop k.toNat) w.bookings):=by
 have hid:w64 (((i+1:Nat):Int)-1)=(i:Int):=by rw [Zc (by omega)]; omega
 have hsub:subL o.way k (o.way.length:Int)=o.way.drop k.toNat:=by
  unfold subL
  rw [List.take_of_length_le (by rw [List.length_drop]; omega)]
 have hsl:chk (slOk k (o.way.length:Int) o.way.length)=some ():=Zfw (by unfold slOk; exact decide_eq_true ⟨hk.1,hk.2,Int.le_refl _⟩)
 refine Zd6 (body:=Za6 w ((i+1:Nat):Int) k) (fun j:Nat=>((j:Int),Zeq ((i+1:Nat):Int) (o.way.drop k.toNat) (w.bookings.take j))) (n:=w.bookings.length) (fun j hj=>?_) ?_ NN (by unfold NN; omega)
 ·have hg:getI w.bookings (j:Int)=some w.bookings[j]:=by rw [Zd]; exact List.getElem?_eq_getElem hj
  have hw:w64 ((j:Int)+1)=((j+1:Nat):Int):=Zt hj (by omega)
  have hfl:(Zeq ((i+1:Nat):Int) (o.way.drop k.toNat) (w.bookings.take j)).length≤1000:=Nat.le_trans (List.length_filter_le _ _) (by rw [List.length_take]; omega)
  have ha:chk (appOk ((Zeq ((i+1:Nat):Int) (o.way.drop k.toNat) (w.bookings.take j)).length+([w.bookings[j]]:List YBooking).length) 32)=some ():=Zdh (by simp only [List.length_cons,List.length_nil]; omega) (by omega)
  have hs:Zeq ((i+1:Nat):Int) (o.way.drop k.toNat) (w.bookings.take (j+1))=Zeq ((i+1:Nat):Int) (o.way.drop k.toNat) (w.bookings.take j)++(if (decide (w.bookings[j].thing=((i+1:Nat):Int)) && ZK (o.way.drop k.toNat) w.bookings[j].trip)=true then [] else [w.bookings[j]]):=by
   unfold Zeq
   rw [List.take_succ_eq_append_getElem hj,List.filter_append]
   simp only [List.filter_cons,List.filter_nil]
   cases decide (w.bookings[j].thing=((i+1:Nat):Int)) && ZK (o.way.drop k.toNat) w.bookings[j].trip <;> rfl
  unfold Za6
  simp only [decide_eq_true (show (j:Int)<w.bookings.length by omega),cond_true,hg,Option.bind_some,hw,ha]
  rw [hs]
  by_cases h:w.bookings[j].thing=((i+1:Nat):Int)
  ·rw [decide_eq_true h]
   simp only [Bool.not_true,cond_false,rgI,hid,ho,Option.bind_some,hsl,hsub,Zea (show (o.way.drop k.toNat).length≤1048576 by rw [List.length_drop]; omega),Bool.true_and]
   have e:((o.way.drop k.toNat).any fun y=>decide (y=w.bookings[j].trip))=ZK (o.way.drop k.toNat) w.bookings[j].trip:=rfl
   rw [e]
   cases ZK (o.way.drop k.toNat) w.bookings[j].trip with
   | true=>simp
   | false=>rfl
  ·rw [decide_eq_false h]; rfl
 ·unfold Za6
  simp [List.take_length]
variable (hf:WFit w) (hn:Zb w.network=some true) (hb:Zr w.network w.bookings=true) (hnow:0≤w.now∧w.now≤100000) (hi:i≤1000)
 (ho:w.orders[i]?=some o) (hg:0≤o.gone∧o.gone≤o.way.length) (h2:o.state=2→o.gone<o.way.length) (ht:∀ t∈o.way,Zc3 w.network t=true) (hwl:o.way.length≤1000)
include hf hn hb hnow hi ho hg h2 ht hwl
theorem ZqG:∃ w',Za0 w ((i+1:Nat):Int)=some w'∧ZfT w i o w':=by
 have hl:=hf.way o (List.mem_of_getElem? ho)
 obtain ⟨_,hbl⟩:=ZV hb
 obtain ⟨c0,c1⟩:=Zdb hn
 have hoi:getI w.orders (i:Int)=some o:=by rw [Zd]; exact ho
 have hid:w64 (((i+1:Nat):Int)-1)=(i:Int):=by rw [Zc (by omega)]; omega
 have hk:0≤Zh o∧Zh o≤o.way.length:=by
  unfold Zh
  by_cases h:o.state=2
  ·rw [if_pos h]; have:=h2 h; omega
  ·rw [if_neg h]; exact hg
 have hcome:Zbq o=some (Zh o):=by
  rw [(Zgw hg hl).2.2,if_neg (by omega)]
 have hkl:(Zu o).length=(Zh o).toNat:=by unfold Zu; rw [List.length_take]; omega
 have hsub:subL o.way 0 (Zh o)=Zu o:=by unfold subL Zu; simp
 have hsl:chk (slOk 0 (Zh o) o.way.length)=some ():=Zfw (by unfold slOk; exact decide_eq_true ⟨Int.le_refl _,hk.1,hk.2⟩)
 have hct:ZA (Zu o)=some (Zu o):=ZfL (by omega)
 have hw1:w64 (w.now+1)=w.now+1:=Zc (by omega)
 have hll:(Zb3 w i o).length≤120:=Nat.le_trans (Ze8 _ _ _).length_le hbl
 have hlv:=Zhk hf.net hb (Ze8 ((i+1:Nat):Int) (Ze0 o) w.bookings)
 have hat:ZaD w.network (Zay o (Zu o))=some (Zbx w.network o):=by
  have e0:ZaD w.network (Zay o (Zu o))=cond (decide (o.state=2)) ((getI (Zu o) o.gone).bind fun y1=>(getI w.network.legs y1.leg).bind fun y2=>some y2.to_) (some o.place):=rfl
  rw [e0]
  unfold Zbx
  by_cases h:o.state=2
  ·have h3:=h2 h
   have hgt:o.gone.toNat<o.way.length:=by omega
   have e1:getI (Zu o) o.gone=some o.way[o.gone.toNat]:=by
    unfold getI Zu Zh
    rw [if_pos hg.1,if_pos h,List.getElem?_take,if_pos (by omega)]
    exact List.getElem?_eq_getElem hgt
   obtain ⟨y,hy,_⟩:=ZbE hf.net (ht _ (List.getElem_mem hgt))
   rw [decide_eq_true h,cond_true,e1,Option.bind_some,hy,Option.bind_some,if_pos h,List.getElem?_eq_getElem hgt,Option.map_some,Option.getD_some]
   unfold ZaS
   rw [hy]; rfl
  ·rw [decide_eq_false h,cond_false,if_neg h]
 obtain ⟨⟨way,b⟩,e1,e2⟩:=Zf1 hf.net (l:=Zb3 w i o) (by omega) hf.closed (Zbx w.network o) o.to_ (atR w.network w.now o) o.weight
 -- what follows when the way was looked for
 have tail:∀ a,a=atR w.network w.now o→∃ w',((ZaF w.network (Zb3 w i o) w.closed (Zbx w.network o) o.to_ a o.weight).bind fun y14=>
  cond (!y14.2) (some (newW w i o (Zu o) (Zb3 w i o)))
  ((rgI w.orders (w64 (((i+1:Nat):Int)-1))).bind fun y15=>
  (ZaB w.network (Zb3 w i o) ((i+1:Nat):Int) o.weight y14.1).bind fun y16=>
  cond y16.2
  ((rgI w.orders (w64 (((i+1:Nat):Int)-1))).bind fun y17=>
  (chk (appOk (((Zu o):List YTrip).length+(y14.1:List YTrip).length) 16)).bind fun _=>
  some (newW w i o (Zu o++y14.1) y16.1))
  (some (newW w i o (Zu o) (Zb3 w i o)))))=some w'∧ZfT w i o w':=by
  rintro a rfl
  rw [e1,Option.bind_some]
  cases b with
  | false=>exact ⟨_,rfl,.inl ⟨.inl ⟨way,e2⟩,rfl⟩⟩
  | true=>
  have hR:=Zj3 hf.net (show (Zb3 w i o).length≤1048576 by omega) hf.closed e2
  have hlen:=hR.len
  have hnl:(Zdc ((i+1:Nat):Int) o.weight way).length=way.length:=by unfold Zdc; rw [List.length_map]
  obtain ⟨d,d1,d2⟩:=Zoj (Zb3 w i o++Zdc ((i+1:Nat):Int) o.weight way) (by rw [List.length_append,hnl]; omega)
  have hbk:ZaB w.network (Zb3 w i o) ((i+1:Nat):Int) o.weight way=Zx w.network (Zb3 w i o) ((i+1:Nat):Int) o.weight way:=by
   unfold ZaB
   rw [if_pos ⟨Zlu.2 hf.net,by omega,by omega⟩]
  have hsp:=ZfV hf.net (show (Zb3 w i o).length≤1048000 by omega) ((i+1:Nat):Int) o.weight d1 d2
  simp only [Bool.not_true,cond_false,rgI,hid,hoi,Option.bind_some]
  rw [hbk]
  by_cases hbd:Zr w.network d=true
  ·rw [if_pos ⟨hlv,hlen,hbd⟩] at hsp
   have ha:chk (appOk ((Zu o).length+way.length) 16)=some ():=Zdh (by omega) (by omega)
   exact ⟨_,by rw [hsp]; simp only [Option.bind_some,cond_true,ha],.inr ⟨way,d,⟨e2,hsp,hR,d1,hbd⟩,rfl⟩⟩
  ·rw [if_neg (fun hx=>hbd hx.2.2)] at hsp
   exact ⟨_,by rw [hsp]; rfl,.inl ⟨.inr ⟨way,e2,hsp⟩,rfl⟩⟩
 unfold Za0
 simp only [rgI,hid,hoi,Option.bind_some,hcome,ZnC (show w.bookings.length≤1000 by omega) hoi hl hi hk,hsl,hsub,hct]
 have hdl:Zeq ((i+1:Nat):Int) (List.drop (Zh o).toNat o.way) w.bookings=Zb3 w i o:=rfl
 rw [hdl]
 by_cases h0:0<Zh o
 ·have hkt:(Zh o).toNat-1<o.way.length:=by omega
  have hlast:(Zu o).getLast?=some o.way[(Zh o).toNat-1]:=by
   unfold Zu
   rw [Zd9 (by omega) (by omega)]
   exact List.getElem?_eq_getElem hkt
  have hgk:getI (Zu o) (w64 (Zh o-1))=some o.way[(Zh o).toNat-1]:=by
   rw [Zc (by omega)]
   unfold getI Zu
   rw [if_pos (by omega),List.getElem?_take,if_pos (by omega),show (Zh o-1).toNat=(Zh o).toNat-1 by omega]
   exact List.getElem?_eq_getElem hkt
  obtain ⟨t1,t2,t3,t4,t5⟩:=ZbF hf.net hn (ht _ (List.getElem_mem hkt))
  have he:ZF w.network o.way[(Zh o).toNat-1]=some (ZbH w.network o.way[(Zh o).toNat-1]):=by rw [Zgx]; exact t2
  have hwe:w64 (ZbH w.network o.way[(Zh o).toNat-1]+w.network.change)=ZbH w.network o.way[(Zh o).toNat-1]+w.network.change:=Zc (by omega)
  have hate:(if ZbH w.network o.way[(Zh o).toNat-1]+w.network.change > w.now+1 then ZbH w.network o.way[(Zh o).toNat-1]+w.network.change else w.now+1)=atR w.network w.now o:=by
   unfold atR; rw [hlast]
  rw [decide_eq_true h0,cond_true,hgk]
  simp only [Option.bind_some,he,hw1,hwe]
  have hat':ZaD w.network ⟨o.from_,o.to_,o.service,o.weight,o.at_,o.due,Zu o,o.gone,o.state,o.place,o.ended⟩=some (Zbx w.network o):=hat
  rw [hat',Option.bind_some]
  obtain ⟨w',q1,q2⟩:=tail _ hate
  refine ⟨w',?_,q2⟩
  rw [← q1]
  simp only [rgI,hid,hoi,Option.bind_some,newW,Zay,Int.toNat_natCast]
 ·have hlast:(Zu o).getLast?=none:=by
   unfold Zu
   rw [show (Zh o).toNat=0 by omega]; rfl
  have hate:w.now+1=atR w.network w.now o:=by unfold atR; rw [hlast]
  rw [decide_eq_false h0,cond_false]
  have hat':ZaD w.network ⟨o.from_,o.to_,o.service,o.weight,o.at_,o.due,Zu o,o.gone,o.state,o.place,o.ended⟩=some (Zbx w.network o):=hat
  rw [hat',Option.bind_some,hw1]
  obtain ⟨w',q1,q2⟩:=tail _ hate
  refine ⟨w',?_,q2⟩
  rw [← q1]
  simp only [rgI,hid,hoi,Option.bind_some,newW,Zay,Int.toNat_natCast]
end
def ZhP (n:YNetwork) (bs:List YBooking) (cl:List YTrip) (now:Int) (i:Nat) (o:YOrder):Bool:=Zej ⟨n,[],bs,cl,now,[],[],0⟩ i o
theorem ZnU (w:YWorld) (i:Nat) (o:YOrder):Zej w i o=ZhP w.network w.bookings w.closed w.now i o:=rfl
structure Zi6 (w:YWorld) (c:Nat→List YTrip):Prop where
 fit:WFit w
 books:Zr w.network w.bookings=true
 now:0≤w.now∧w.now≤100000
 olen:w.orders.length≤30
 ord:∀ (i:Nat) (o:YOrder),w.orders[i]?=some o→ZhP w.network w.bookings (c i) w.now i o=true
 sum:(w.orders.map fun o=>o.way.length).sum=w.bookings.length
 cl:∀ i,(c i).length≤1048576
theorem ZpS {α:Type} (f:α→Nat):∀ {l:List α} {x:α},x∈l→f x≤(l.map f).sum
 | a::l,x,h=>by
  simp only [List.map_cons,List.sum_cons]
  rcases List.mem_cons.1 h with rfl | h
  ·omega
  ·have:=ZpS f h; omega
theorem Zou {w:YWorld} (hf:WFit w) (ho:w.orders.length≤1000):Zl7 w=((w.orders.map fun o=>o.way.length).sum:Nat):=by
 have:=Zkg w.orders 0 hf.way (by omega)
 rw [Nat.zero_add] at this
 exact this
structure Zi8 (w:YWorld):Prop where
 closed:w.closed.length≤20
 scans:w.scans.length≤200
 skip:w.skip.length≤50
 made:w.scans.length≤w.made∧w.made≤1000000000
 cl:allI (ZfK w) 0 w.closed=true
 sc:allI (ZkR w) 0 w.scans=true
theorem Zk6 {w:YWorld} (h:WOk w):Zi6 w (fun _=>w.closed)∧Zi8 w:=by
 obtain ⟨p1,p2,p3,p4,p5,p6,p7⟩:=h.parts
 have hv:=h.ok
 unfold Zek at hv
 simp only [Bool.and_eq_true,Bool.not_eq_true',decide_eq_true_iff,decide_eq_false_iff_not] at hv
 obtain ⟨⟨⟨⟨⟨⟨⟨⟨⟨⟨h1,h2⟩,h3⟩,h4⟩,h5⟩,h6⟩,h7⟩,h8⟩,h9⟩,h10⟩,h11⟩:=hv
 refine ⟨⟨h.fit,h1,p1,p2,fun i o ho=>?_,?_,fun _=>h.fit.closed⟩,⟨p3,p4,p5,p6,h8,h9⟩⟩
 ·rw [← ZnU]; exact Zh2 h.ok ho
 ·have:=Zou h.fit (by omega)
  rw [this] at h11
  omega
theorem Zpw {w:YWorld} (h:Zi6 w (fun _=>w.closed)) (k:Zi8 w):WOk w:=by
 refine ⟨h.fit,?_⟩
 have:=h.olen
 have:=k.closed
 have:=k.scans
 have:=k.skip
 unfold Zek
 simp only [Bool.and_eq_true,Bool.not_eq_true',decide_eq_true_iff,decide_eq_false_iff_not]
 refine ⟨⟨⟨⟨⟨⟨⟨⟨⟨⟨h.books,h.now⟩,by omega⟩,by omega⟩,by omega⟩,by omega⟩,k.made⟩,k.cl⟩,k.sc⟩,?_⟩,?_⟩
 ·refine Zdr.2 fun i o ho=>?_
  rw [Nat.zero_add]
  exact h.ord i o ho
 ·rw [Zou h.fit (by omega),h.sum]
structure OrdP (n:YNetwork) (bs:List YBooking) (cl:List YTrip) (now:Int) (i:Nat) (o:YOrder):Prop where
 ok:Zkk ⟨n,[],bs,cl,now,[],[],0⟩ i o
 chain:ZcD n o.from_ (o.at_+1) o.way
 st:Zhg n o now
section
variable {w:YWorld} {c:Nat→List YTrip} (h:Zi6 w c) {i:Nat} {o:YOrder} (ho:w.orders[i]?=some o)
include h ho
theorem Zgg:o.way.length≤120:=by
 have:=ZpS (fun o:YOrder=>o.way.length) (List.mem_of_getElem? ho)
 have:=(ZV h.books).2
 have:=h.sum
 omega
theorem ZcS:OrdP w.network w.bookings (c i) w.now i o:=by
 have hn:=(ZV h.books).1
 have hl:=Zgg h ho
 have hO:=ZlO (w:=⟨w.network,[],w.bookings,c i,w.now,[],[],0⟩) ⟨h.fit.net,by simp,h.fit.bookings,h.cl i,by simp,by simp,by simp⟩ (i:=i) (o:=o) (by omega) (h.ord i o ho)
 have hw:w64 (o.at_+1)=o.at_+1:=by
  have h1:0≤o.at_:=hO.at_.1
  have h2:o.at_≤w.now:=hO.at_.2
  have:=h.now
  rw [Zc (by omega)]
 have hc:=ZhC h.fit.net hn (by omega) hO.isWay
 rw [hw] at hc
 exact ⟨hO,hc,(Zh0 h.fit.net hn hO.gone (by omega) hO.trip w.now).1 hO.st⟩
theorem Zd3:0≤Zh o∧Zh o≤o.way.length∧(Zu o).length=(Zh o).toNat∧o.gone≤Zh o:=by
 have hO:=(ZcS h ho).ok
 obtain ⟨g0,g1⟩:=hO.gone
 have hk:0≤Zh o∧Zh o≤o.way.length∧o.gone≤Zh o:=by
  unfold Zh
  by_cases hs:o.state=2
  ·rw [if_pos hs]
   rcases hO.cases with c1 | c1 | c1
   ·have:=c1.1; omega
   ·have:=c1.2; omega
   ·have:=c1.1; omega
  ·rw [if_neg hs]; omega
 refine ⟨hk.1,hk.2.1,?_,hk.2.2⟩
 unfold Zu
 rw [List.length_take]; omega
theorem ZeY:o.way=Zu o++Ze0 o:=(List.take_append_drop _ _).symm
theorem ZlE {j:Nat} (hj:j<(Zu o).length):(Zu o)[j]?=o.way[j]?:=by
 have:=(Zd3 h ho).2.2.1
 unfold Zu
 rw [List.getElem?_take,if_pos (by omega)]
theorem Znf (hs:¬ o.state=3):endP w.network o.from_ (Zu o)=Zbx w.network o:=by
 have hP:=ZcS h ho
 obtain ⟨k0,k1,k2,k3⟩:=Zd3 h ho
 obtain ⟨g0,g1⟩:=hP.ok.gone
 unfold Zbx
 rcases hP.st.cases with ⟨s1,s2,s3,s4,s5⟩ | ⟨s1,s2,s3,t,t1,t2,t3⟩ | s
 ·rw [if_neg (by omega),s2]
  unfold Zhy
  have hcv:Zh o=o.gone:=by unfold Zh; rw [if_neg (by omega)]
  by_cases hg:0<o.gone
  ·have hlt:(o.gone-1).toNat<o.way.length:=by omega
   rw [if_pos hg,List.getElem?_eq_getElem hlt]
   refine ZfZ ?_
   unfold Zu
   rw [hcv,Zd9 (by omega) (by omega),show o.gone.toNat-1=(o.gone-1).toNat by omega,List.getElem?_eq_getElem hlt]
  ·rw [if_neg hg]
   unfold Zu
   rw [hcv,show o.gone.toNat=0 by omega]; rfl
 ·rw [if_pos s1,t1]
  refine ZfZ ?_
  have hcv:Zh o=o.gone+1:=by unfold Zh; rw [if_pos s1]
  have hlt:=(List.getElem?_eq_some_iff.1 t1).1
  unfold Zu
  rw [hcv,Zd9 (by omega) (by omega),show (o.gone+1).toNat-1=o.gone.toNat by omega,t1]
 ·exact absurd s.1 hs
theorem Zne:endA w.network (o.at_+1) (Zu o)≤atR w.network w.now o∧w.now+1≤atR w.network w.now o∧0≤atR w.network w.now o:=by
 have hP:=ZcS h ho
 have hnow:=h.now
 have h2:o.at_≤w.now:=hP.ok.at_.2
 unfold atR
 cases hl:(Zu o).getLast? with
 | none=>
  rw [List.getLast?_eq_none_iff] at hl
  rw [hl]
  refine ⟨?_,?_,?_⟩ <;> simp only [endA,List.foldl_nil] <;> omega
 | some t=>
  rw [Zjn hl]
  simp only
  split <;> omega
theorem ZjP {more:List YTrip} {bs:List YBooking} (hs:¬ o.state=3) (hne:¬ Zbx w.network o=o.to_)
 (hb1:∀ t∈Zu o,Zct bs ((i+1:Nat):Int) t o.weight=true) (hb2:∀ t∈more,Zct bs ((i+1:Nat):Int) t o.weight=true)
 (hc:ZcD w.network (Zbx w.network o) (atR w.network w.now o) more) (hl:more.length≤20) (hend:more=[]∨(Zbx w.network o::more.map (ZaS w.network)).Nodup∧(Zbx w.network o::more.map (ZaS w.network)).getLast?=some o.to_)
 (hopen:more.any (ZK w.closed)=false):ZhP w.network bs w.closed w.now i (Zay o (Zu o++more))=true:=by
 have hP:=ZcS h ho
 have hn:=(ZV h.books).1
 have hlen:=Zgg h ho
 obtain ⟨k0,k1,k2,k3⟩:=Zd3 h ho
 obtain ⟨g0,g1⟩:=hP.ok.gone
 have hnow:=h.now
 obtain ⟨a1,a2,a3⟩:=Zne h ho
 have hep:=Znf h ho hs
 have hv:=h.ord i o ho
 unfold ZhP Zej at hv ⊢
 simp only [Bool.and_eq_true,Bool.not_eq_true',decide_eq_true_iff,decide_eq_false_iff_not] at hv ⊢
 obtain ⟨⟨⟨⟨⟨⟨⟨⟨⟨⟨⟨h1,h2⟩,h3⟩,h4⟩,h5⟩,h6⟩,h7⟩,h8⟩,h9⟩,h10⟩,h11⟩,h12⟩:=hv
 have hch:ZcD w.network o.from_ (o.at_+1) (Zu o++more):=by
  have:=hP.chain
  rw [ZeY h ho] at this
  refine (Zhl _).2 ⟨((Zhl _).1 this).1,?_⟩
  rw [hep]
  exact Zjf hc a1
 have htr:=Zfj hch
 have hget:∀ (j:Nat),j<(Zu o).length→(Zu o++more)[j]?=o.way[j]?:=fun j hj=>by
  rw [List.getElem?_append_left hj]
  exact ZlE h ho hj
 refine ⟨⟨⟨⟨⟨⟨⟨⟨⟨⟨⟨h1,h2⟩,h3⟩,h4⟩,h5⟩,h6⟩,h7⟩,?_⟩,?_⟩,?_⟩,?_⟩,?_⟩
 ·simp only [Zay,List.length_append]; omega
 ·refine Zdr.2 fun j t hj=>?_
  have hj':(Zu o++more)[j]?=some t:=hj
  have htm:=List.mem_of_getElem? hj'
  unfold wayC
  simp only [Bool.and_eq_true,Bool.not_eq_true',Bool.and_eq_false_imp,decide_eq_true_iff,decide_eq_false_iff_not,Nat.zero_add]
  refine ⟨⟨htr t htm,?_⟩,fun he hj1=>?_⟩
  ·rcases List.mem_append.1 htm with hm | hm
   ·exact hb1 t hm
   ·exact hb2 t hm
  ·have hj1':j+1<(Zu o++more).length:=hj1
   have he':ZaS w.network t=o.to_:=he
   rw [List.length_append] at hj1'
   by_cases hjk:j<(Zu o).length
   ·rw [hget j hjk] at hj'
    have:=Zdr.1 h9 j t hj'
    unfold wayC at this
    simp only [Bool.and_eq_true,Bool.not_eq_true',Bool.and_eq_false_imp,decide_eq_true_iff,decide_eq_false_iff_not,Nat.zero_add] at this
    have hno:=this.2 he'
    have hjl:=(List.getElem?_eq_some_iff.1 hj').1
    refine hne ?_
    rw [← hep,← he']
    refine ZfZ ?_
    unfold Zu
    rw [Zd9 (by omega) (by omega),show (Zh o).toNat-1=j by omega,hj']
   ·rw [List.getElem?_append_right (by omega)] at hj'
    rcases hend with rfl | ⟨hnd,hla⟩
    ·simp at hj'
    rw [List.getLast?_eq_getElem?,List.length_cons,List.length_map,Nat.add_sub_cancel] at hla
    have q1:(Zbx w.network o::more.map (ZaS w.network))[j-(Zu o).length+1]?=some o.to_:=by rw [List.getElem?_cons_succ,List.getElem?_map,hj',Option.map_some,he']
    have q2:=List.pairwise_iff_getElem.1 hnd (j-(Zu o).length+1) more.length (by simp; omega) (by simp) (by omega)
    exact q2 ((List.getElem?_eq_some_iff.1 q1).2.trans (List.getElem?_eq_some_iff.1 hla).2.symm)
 ·have hw:w64 (o.at_+1)=o.at_+1:=by
   have q1:0≤o.at_:=h6.1
   have q2:o.at_≤w.now:=h6.2
   rw [Zc (by omega)]
  show (Zan w.network (Zu o++more) o.from_ (endP w.network o.from_ (Zu o++more)) (w64 (o.at_+1))).getD false=true
  have hl2:(Zu o++more).length≤1048576:=by rw [List.length_append]; omega
  rw [hw,Zko h.fit.net hn hl2 (by omega) (Zo7 h.fit.net hn (by omega) htr) hch rfl]; rfl
 ·have hS:Zhg w.network (Zay o (Zu o++more)) w.now:=by
   refine ⟨fun t hg ht=>?_,?_⟩
   ·have hg':0<o.gone:=hg
    have ht':(Zu o++more)[(o.gone-1).toNat]?=some t:=ht
    rw [hget _ (by omega)] at ht'
    exact hP.st.past t hg' ht'
   ·have hhere:Zhy w.network (Zay o (Zu o++more))=Zhy w.network o:=by
     unfold Zhy
     by_cases hg:0<o.gone
     ·rw [if_pos hg,if_pos (show 0<(Zay o (Zu o++more)).gone from hg)]
      show (((Zu o++more)[(o.gone-1).toNat]?).map (ZaS w.network)).getD ⟨#[]⟩=_
      rw [hget _ (by omega)]
     ·rw [if_neg hg,if_neg (show ¬ 0<(Zay o (Zu o++more)).gone from hg)]; rfl
    rcases hP.st.cases with ⟨s1,s2,s3,s4,s5⟩ | ⟨s1,s2,s3,t,t1,t2,t3⟩ | s
    ·refine .inl ⟨s1,by rw [hhere]; exact s2,by rw [hhere]; exact s3,s4,fun t ht=>?_⟩
     have ht':(Zu o++more)[o.gone.toNat]?=some t:=ht
     have hcv:Zh o=o.gone:=by unfold Zh; rw [if_neg (by omega)]
     rw [List.getElem?_append_right (by omega),show o.gone.toNat-(Zu o).length=0 by omega] at ht'
     cases more with
     | nil=>simp at ht'
     | cons x xs=>
      obtain rfl:x=t:=by simpa using ht'
      have:=hc.2.2.1
      omega
    ·have hcv:Zh o=o.gone+1:=by unfold Zh; rw [if_pos s1]
     refine .inr (.inl ⟨s1,s2,s3,t,?_,t2,t3⟩)
     show (Zu o++more)[o.gone.toNat]?=some t
     rw [hget _ (by omega)]; exact t1
    ·exact absurd s.1 hs
  show (Zl w.network (Zay o (Zu o++more)) w.now).getD false=true
  rw [(Zh0 h.fit.net hn (o:=Zay o (Zu o++more)) ⟨g0,by simp only [Zay,List.length_append]; omega⟩ (by simp only [Zay,List.length_append]; omega) htr w.now).2 hS]; rfl
 ·have hd:((Zay o (Zu o++more)).way.drop (Zh (Zay o (Zu o++more))).toNat)=more:=by
   show (Zu o++more).drop (Zh o).toNat=more
   rw [← k2,List.drop_left]
  rw [hd]; exact hopen
theorem ZfN {t:YTrip} (ht:t∈o.way):(⟨((i+1:Nat):Int),t,o.weight⟩:YBooking)∈w.bookings:=by
 obtain ⟨j,hj,rfl⟩:=List.getElem_of_mem ht
 have:=Zdr.1 (ZcS h ho).ok.way j _ (List.getElem?_eq_getElem hj)
 unfold wayC at this
 simp only [Bool.and_eq_true] at this
 have:=this.1.2
 unfold Zct at this
 obtain ⟨x,h1,h2⟩:=List.any_eq_true.1 this
 rw [← of_decide_eq_true h2]; exact h1
theorem ZjE {t:YTrip} (ht:t∈Zu o):(⟨((i+1:Nat):Int),t,o.weight⟩:YBooking)∈Zb3 w i o:=by
 have hP:=ZcS h ho
 have hn:=(ZV h.books).1
 have hnd:=ZfJ h.fit.net hn hP.chain
 rw [ZeY h ho] at hnd
 have hw:t∈o.way:=by rw [ZeY h ho]; exact List.mem_append_left _ ht
 exact ZjM.2 ⟨ZfN h ho hw,fun hx=>(List.nodup_append.1 hnd).2.2 t ht t hx.2 rfl⟩
theorem ZoV:(Zb3 w i o).length+(Ze0 o).length=w.bookings.length:=by
 have hP:=ZcS h ho
 have hn:=(ZV h.books).1
 have hnd:=ZfJ h.fit.net hn hP.chain
 rw [ZeY h ho] at hnd
 exact Znc h.books (List.nodup_append.1 hnd).2.1 fun t ht=>ZfN h ho (by rw [ZeY h ho]; exact List.mem_append_right _ ht)
theorem ZlL {more:List YTrip} {bs:List YBooking} (hb:Zr w.network bs=true) (hl:bs.length=(Zb3 w i o).length+more.length) (hin:∀ b∈Zb3 w i o,b∈bs)
 (hO:ZhP w.network bs w.closed w.now i (Zay o (Zu o++more))=true) (hm:more.length≤20):Zi6 (newW w i o (Zu o++more) bs) (fun j=>if j=i then w.closed else c j):=by
 have hlen:=Zgg h ho
 obtain ⟨k0,k1,k2,k3⟩:=Zd3 h ho
 have hbl:=(ZV hb).2
 have hil:=(List.getElem?_eq_some_iff.1 ho).1
 have hwl:(Zu o).length+(Ze0 o).length=o.way.length:=by
  have:=congrArg List.length (ZeY h ho)
  rw [List.length_append] at this; omega
 refine ⟨⟨h.fit.net,?_,?_,h.fit.closed,h.fit.scans,h.fit.skip,fun x hx=>?_⟩,hb,h.now,?_,fun j x hx=>?_,?_,fun j=>?_⟩
 ·simp only [newW,List.length_set]; exact h.fit.orders
 ·simp only [newW]; omega
 ·rcases List.mem_or_eq_of_mem_set hx with hx | rfl
  ·exact h.fit.way x hx
  ·simp only [Zay,List.length_append]; omega
 ·simp only [newW,List.length_set]; exact h.olen
 ·have hx':(w.orders.set i (Zay o (Zu o++more)))[j]?=some x:=hx
  show ZhP w.network bs (if j=i then w.closed else c j) w.now j x=true
  by_cases hji:j=i
  ·subst hji
   rw [List.getElem?_set_self hil] at hx'
   obtain rfl:=Option.some.inj hx'
   rw [if_pos rfl]; exact hO
  ·rw [if_neg hji]
   rw [List.getElem?_set_ne (fun e=>hji e.symm)] at hx'
   have hv:=h.ord j x hx'
   unfold ZhP Zej at hv ⊢
   simp only [Bool.and_eq_true,Bool.not_eq_true',decide_eq_true_iff,decide_eq_false_iff_not] at hv ⊢
   obtain ⟨⟨⟨⟨⟨⟨⟨⟨⟨⟨⟨h1,h2⟩,h3⟩,h4⟩,h5⟩,h6⟩,h7⟩,h8⟩,h9⟩,h10⟩,h11⟩,h12⟩:=hv
   refine ⟨⟨⟨⟨⟨⟨⟨⟨⟨⟨⟨h1,h2⟩,h3⟩,h4⟩,h5⟩,h6⟩,h7⟩,h8⟩,?_⟩,h10⟩,h11⟩,h12⟩
   refine Zdr.2 fun a t ha=>?_
   have:=Zdr.1 h9 a t ha
   unfold wayC at this ⊢
   simp only [Bool.and_eq_true] at this ⊢
   refine ⟨⟨this.1.1,?_⟩,this.2⟩
   have hbk:=this.1.2
   unfold Zct at hbk ⊢
   obtain ⟨y,y1,y2⟩:=List.any_eq_true.1 hbk
   obtain rfl:=of_decide_eq_true y2
   exact List.any_eq_true.2 ⟨_,hin _ (ZjM.2 ⟨y1,fun e=>hji (by have:=e.1; simp only at this; omega)⟩),y2⟩
 ·have:=Zom (fun o:YOrder=>o.way.length) (Zay o (Zu o++more)) ho
  have e:(Zay o (Zu o++more)).way.length=(Zu o).length+more.length:=List.length_append
  simp only [e] at this
  have hs:=h.sum
  have hll:=ZoV h ho
  show ((w.orders.set i (Zay o (Zu o++more))).map fun o=>o.way.length).sum=bs.length
  omega
 ·show (if j=i then w.closed else c j).length≤1048576
  split
  ·exact h.fit.closed
  ·exact h.cl j
theorem Zmx (hs:¬ o.state=3) (hne:¬ Zbx w.network o=o.to_):∃ w',Za0 w ((i+1:Nat):Int)=some w'∧ZfT w i o w'∧Zi6 w' (fun j=>if j=i then w.closed else c j):=by
 have hP:=ZcS h ho
 have hn:=(ZV h.books).1
 have hlen:=Zgg h ho
 have hil:=(List.getElem?_eq_some_iff.1 ho).1
 have hol:=h.olen
 obtain ⟨w',e,hR⟩:=ZqG h.fit hn h.books h.now (by omega) ho hP.ok.gone (fun h2=>by
  rcases hP.ok.cases with c1 | c1 | c1
  ·have:=c1.1; omega
  ·exact c1.2
  ·have:=c1.1; omega) hP.ok.trip (by omega)
 refine ⟨w',e,hR,?_⟩
 rcases hR with ⟨_,rfl⟩ | ⟨way,bs,hN,rfl⟩
 ·have hO:=ZjP h ho (more:=[]) (bs:=Zb3 w i o) hs hne (fun t ht=>?_) (by simp) trivial (by simp) (.inl rfl) rfl
  ·have:=ZlL h ho (more:=[]) (bs:=Zb3 w i o) (Zhk h.fit.net h.books (Ze8 _ _ _)) (by simp) (fun b hb=>hb) hO (by simp)
   rw [List.append_nil] at this
   exact this
  ·unfold Zct
   exact List.any_eq_true.2 ⟨_,ZjE h ho ht,decide_eq_true rfl⟩
 ·obtain ⟨a1,a2,a3⟩:=Zne h ho
  have hat:(if 0 > atR w.network w.now o then 0 else atR w.network w.now o)=atR w.network w.now o:=if_neg (by omega)
  have hch:=hN.wayR.chain
  rw [hat] at hch
  have hpl:=hN.perm.length_eq
  have hnl:(Zdc ((i+1:Nat):Int) o.weight way).length=way.length:=by unfold Zdc; rw [List.length_map]
  rw [List.length_append,hnl] at hpl
  have hO:=ZjP h ho (more:=way) (bs:=bs) hs hne (fun t ht=>?_) (fun t ht=>?_) hch hN.wayR.len (.inr ⟨hN.wayR.nodup,hN.wayR.last⟩) ?_
  ·exact ZlL h ho hN.books hpl (fun b hb=>hN.perm.mem_iff.2 (List.mem_append_left _ hb)) hO hN.wayR.len
  ·unfold Zct
   exact List.any_eq_true.2 ⟨_,hN.perm.mem_iff.2 (List.mem_append_left _ (ZjE h ho ht)),decide_eq_true rfl⟩
  ·unfold Zct
   refine List.any_eq_true.2 ⟨⟨((i+1:Nat):Int),t,o.weight⟩,hN.perm.mem_iff.2 (List.mem_append_right _ ?_),decide_eq_true rfl⟩
   unfold Zdc; exact List.mem_map_of_mem ht
  ·refine List.any_eq_false.2 fun t ht=>?_
   have:=(hN.wayR.found t ht).1
   rw [Zd0,Zea h.fit.closed] at this
   have:=Option.some.inj this
   show ¬ ZK w.closed t=true
   unfold ZK
   rw [this]; simp
end
/-! The bookings are those of the ways. -/
def allN:Nat→List YOrder→List YBooking
 | _,[]=>[]
 | i,o::os=>Zdc ((i+1:Nat):Int) o.weight o.way++allN (i+1) os
theorem Zk8:∀ (os:List YOrder) (i:Nat),(allN i os).length=(os.map fun o=>o.way.length).sum
 | [],_=>rfl
 | o::os,i=>by
  unfold allN Zdc
  rw [List.length_append,List.length_map,Zk8 os,List.map_cons,List.sum_cons]
theorem ZgZ {b:YBooking}:∀ {os:List YOrder} {i:Nat},b∈allN i os↔∃ (j:Nat) (o:YOrder) (t:YTrip),os[j]?=some o∧t∈o.way∧b=⟨((i+j+1:Nat):Int),t,o.weight⟩
 | [],i=>by simp [allN]
 | o::os,i=>by
  unfold allN Zdc
  rw [List.mem_append,ZgZ (os:=os) (i:=i+1),List.mem_map]
  constructor
  ·rintro (⟨t,h1,h2⟩ | ⟨j,o',t,h1,h2,h3⟩)
   ·exact ⟨0,o,t,rfl,h1,h2.symm⟩
   ·exact ⟨j+1,o',t,by simpa using h1,h2,by rw [h3,show i+1+j+1=i+(j+1)+1 by omega]⟩
  ·rintro ⟨j,o',t,h1,h2,h3⟩
   cases j with
   | zero=>
    obtain rfl:o=o':=by simpa using h1
    exact .inl ⟨t,h2,h3.symm⟩
   | succ j=>exact .inr ⟨j,o',t,by simpa using h1,h2,by rw [h3,show i+1+j+1=i+(j+1)+1 by omega]⟩
theorem Zib:∀ {os:List YOrder} {i:Nat},(∀ o∈os,o.way.Nodup)→(allN i os).Nodup
 | [],i,_=>List.nodup_nil
 | o::os,i,h=>by
  unfold allN
  refine List.nodup_append.2 ⟨?_,Zib fun x hx=>h x (by simp [hx]),fun a ha b hb e=>?_⟩
  ·unfold Zdc List.Nodup
   rw [List.pairwise_map]
   exact (h o (by simp)).imp fun {a b} hne e=>hne (by simpa using e)
  ·obtain ⟨j,o',t,_,_,h3⟩:=ZgZ.1 hb
   unfold Zdc at ha
   obtain ⟨t',_,rfl⟩:=List.mem_map.1 ha
   rw [h3] at e
   have:=congrArg YBooking.thing e
   simp only at this
   omega
theorem Zmf {w:YWorld} {c:Nat→List YTrip} (h:Zi6 w c) {b:YBooking} (hb:b∈w.bookings):∃ (j:Nat) (o:YOrder) (t:YTrip),w.orders[j]?=some o∧t∈o.way∧b=⟨((j+1:Nat):Int),t,o.weight⟩:=by
 have hn:=(ZV h.books).1
 have hnd:(allN 0 w.orders).Nodup:=Zib fun o ho=>by
  obtain ⟨i,hi,rfl⟩:=List.getElem_of_mem ho
  exact ZfJ h.fit.net hn (ZcS h (List.getElem?_eq_getElem hi)).chain
 have hsub:∀ x∈allN 0 w.orders,x∈w.bookings:=fun x hx=>by
  obtain ⟨j,o,t,h1,h2,rfl⟩:=ZgZ.1 hx
  rw [Nat.zero_add]
  exact ZfN h h1 h2
 have hlen:(allN 0 w.orders).length=w.bookings.length:=by rw [Zk8,h.sum]
 have hin:b∈allN 0 w.orders:=Classical.byContradiction fun hx=>by
  have:=Zfd (xs:=b::allN 0 w.orders) (ys:=w.bookings) (List.nodup_cons.2 ⟨hx,hnd⟩) fun x hm=>by
   rcases List.mem_cons.1 hm with rfl | hm
   ·exact hb
   ·exact hsub x hm
  simp only [List.length_cons] at this
  omega
 obtain ⟨j,o,t,h1,h2,h3⟩:=ZgZ.1 hin
 rw [Nat.zero_add] at h3
 exact ⟨j,o,t,h1,h2,h3⟩
structure Zfv (w w':YWorld):Prop where
 network:w'.network=w.network
 now:w'.now=w.now
 closed:w'.closed=w.closed
 scans:w'.scans=w.scans
 skip:w'.skip=w.skip
 made:w'.made=w.made
 len:w'.orders.length=w.orders.length
theorem Zfv.refl (w:YWorld):Zfv w w:=⟨rfl,rfl,rfl,rfl,rfl,rfl,rfl⟩
theorem Zfv.trans {a b c:YWorld} (h:Zfv a b) (k:Zfv b c):Zfv a c:=⟨k.1.trans h.1,k.2.trans h.2,k.3.trans h.3,k.4.trans h.4,k.5.trans h.5,k.6.trans h.6,k.7.trans h.7⟩
theorem Zfv.new (w:YWorld) (i:Nat) (o:YOrder) (ts:List YTrip) (bs:List YBooking):Zfv w (newW w i o ts bs):=⟨rfl,rfl,rfl,rfl,rfl,rfl,by simp only [newW,List.length_set]⟩
theorem ZqW {n:YNetwork} (hf:ZZ n) {l:List YBooking} {closed:List YTrip} {weight at_:Int} {from_ to_:ByteArray} {way:List YTrip} (h:WayR n l closed weight from_ to_ at_ way):way.length≤(Za n).length-1:=by
 have:=Zfd (xs:=from_::way.map (ZaS n)) (ys:=Za n) h.nodup fun p hp=>by
  rcases List.mem_cons.1 hp with rfl | hp
  ·exact Zrl h.hC.2.1
  ·obtain ⟨t,ht,rfl⟩:=List.mem_map.1 hp
   obtain ⟨y,hy,hym⟩:=ZbE hf (Zfj h.chain t ht)
   have f2:ZaS n t=y.to_:=by unfold ZaS; rw [hy]; rfl
   rw [f2]
   exact (ZeV hym).2
 simp only [List.length_cons,List.length_map] at this
 omega
def Ziz (n:YNetwork) (o o':YOrder):Prop:=o'=o∨∃ more,more.length≤(Za n).length-1∧o'=Zay o (Zu o++more)
theorem Zpb {w w':YWorld} (hf:ZZ w.network) {i:Nat} {o:YOrder} (hR:ZfT w i o w') (ho:w.orders[i]?=some o):Zfv w w'∧(∃ o',w'.orders[i]?=some o'∧Ziz w.network o o')∧∀ j,¬ j=i→w'.orders[j]?=w.orders[j]?:=by
 have hil:=(List.getElem?_eq_some_iff.1 ho).1
 rcases hR with ⟨_,rfl⟩ | ⟨way,bs,hN,rfl⟩
 ·refine ⟨Zfv.new _ _ _ _ _,⟨Zay o (Zu o),?_,.inr ⟨[],by simp,by rw [List.append_nil]⟩⟩,fun j hj=>?_⟩
  ·show (w.orders.set i _)[i]?=_
   rw [List.getElem?_set_self hil]
  ·show (w.orders.set i _)[j]?=_
   rw [List.getElem?_set_ne (fun e=>hj e.symm)]
 ·refine ⟨Zfv.new _ _ _ _ _,⟨_,?_,.inr ⟨way,ZqW hf hN.wayR,rfl⟩⟩,fun j hj=>?_⟩
  ·show (w.orders.set i _)[i]?=_
   rw [List.getElem?_set_self hil]
  ·show (w.orders.set i _)[j]?=_
   rw [List.getElem?_set_ne (fun e=>hj e.symm)]
def tupS (w:YWorld):Int × Int × Int × (List YLeg) × (List Int) × (List YOrder) × (List YBooking) × (List YTrip) × (List YScan) × (List Int):=(w.network.change,w.now,w.made,w.network.legs,w.network.off,w.orders,w.bookings,w.closed,w.scans,w.skip)
def ZaJ (w:YWorld) (i:Int):Option YWorld:=
 (getI w.orders i).bind fun y1=>
 (ZaO y1).bind fun y2=>
 cond (decide (0<y2))
 ((getI y1.way (w64 (y2-1))).bind fun y3=>
 (Ze w.network y3).bind fun y4=>
 (ZcO (w64 (w.now+1)) (w64 (y4+w.network.change))).bind fun y5=>
 (Zcm w.network w.bookings (w64 (i+1)) (w64 (w.now+1))).bind fun y6=>
 (Zae w.network y1).bind fun y7=>
 (Zq w.network y6 w.closed y7 y1.to_ y5 y1.weight).bind fun y8=>
 (Zx w.network y6 (w64 (i+1)) y1.weight y8.1).bind fun y9=>
 (chk (slOk 0 y2 y1.way.length)).bind fun _=>
 (chk (appOk ((([]:List YTrip):List YTrip).length+((subL y1.way 0 y2):List YTrip).length) 16)).bind fun _=>
 (getI w.orders i).bind fun y10=>
 cond y9.2
 ((getI w.orders i).bind fun y11=>
 (chk (appOk ((((([]:List YTrip):List YTrip)++(subL y1.way 0 y2)):List YTrip).length+(y8.1:List YTrip).length) 16)).bind fun _=>
 (getI w.orders i).bind fun y12=>
 some (⟨w.network,(w.orders.set (Int.toNat i) (⟨y10.from_,y10.to_,y10.service,y10.weight,y10.at_,y10.due,((((([]:List YTrip):List YTrip)++(subL y1.way 0 y2)):List YTrip)++y8.1),y10.gone,y10.state,y10.place,y10.ended⟩:YOrder)),y9.1,w.closed,w.now,w.scans,w.skip,w.made⟩:YWorld))
 (some (⟨w.network,(w.orders.set (Int.toNat i) (⟨y10.from_,y10.to_,y10.service,y10.weight,y10.at_,y10.due,((([]:List YTrip):List YTrip)++(subL y1.way 0 y2)),y10.gone,y10.state,y10.place,y10.ended⟩:YOrder)),y6,w.closed,w.now,w.scans,w.skip,w.made⟩:YWorld)))
 ((Zcm w.network w.bookings (w64 (i+1)) (w64 (w.now+1))).bind fun y13=>
 (Zae w.network y1).bind fun y14=>
 (Zq w.network y13 w.closed y14 y1.to_ (w64 (w.now+1)) y1.weight).bind fun y15=>
 (Zx w.network y13 (w64 (i+1)) y1.weight y15.1).bind fun y16=>
 (chk (slOk 0 y2 y1.way.length)).bind fun _=>
 (chk (appOk ((([]:List YTrip):List YTrip).length+((subL y1.way 0 y2):List YTrip).length) 16)).bind fun _=>
 (getI w.orders i).bind fun y17=>
 cond y16.2
 ((getI w.orders i).bind fun y18=>
 (chk (appOk ((((([]:List YTrip):List YTrip)++(subL y1.way 0 y2)):List YTrip).length+(y15.1:List YTrip).length) 16)).bind fun _=>
 (getI w.orders i).bind fun y19=>
 some (⟨w.network,(w.orders.set (Int.toNat i) (⟨y17.from_,y17.to_,y17.service,y17.weight,y17.at_,y17.due,((((([]:List YTrip):List YTrip)++(subL y1.way 0 y2)):List YTrip)++y15.1),y17.gone,y17.state,y17.place,y17.ended⟩:YOrder)),y16.1,w.closed,w.now,w.scans,w.skip,w.made⟩:YWorld))
 (some (⟨w.network,(w.orders.set (Int.toNat i) (⟨y17.from_,y17.to_,y17.service,y17.weight,y17.at_,y17.due,((([]:List YTrip):List YTrip)++(subL y1.way 0 y2)),y17.gone,y17.state,y17.place,y17.ended⟩:YOrder)),y13,w.closed,w.now,w.scans,w.skip,w.made⟩:YWorld)))
instance (w:YWorld) (i:Int):CT Tryz.prog (ZaJ w i):=⟨123,[.be 0 0 0,vi i],[some ⟨.of 41,10,[[.ms 1,.ms 2,vi w.network.change,.ms 3,.ms 4,.ms 5,vi w.now,.ms 6,.ms 7,vi w.made]]⟩,some ⟨.of 67,6,w.network.legs.map cLeg⟩,some ⟨.of 3,1,w.network.off.map cInt⟩,some ⟨.of 62,11,w.orders.map cOrder⟩,some ⟨.of 135,4,w.bookings.map cBooking⟩,some ⟨.of 55,2,w.closed.map cTrip⟩,some ⟨.of 130,6,w.scans.map cScan⟩,some ⟨.of 3,1,w.skip.map cInt⟩],fun r=>.tu [],fun r=>[some ⟨.of 41,10,[[.ms 1,.ms 2,vi r.network.change,.ms 3,.ms 8,.ms 5,vi r.now,.ms 6,.ms 7,vi r.made]]⟩,some ⟨.of 67,6,r.network.legs.map cLeg⟩,some ⟨.of 3,1,r.network.off.map cInt⟩,some ⟨.of 62,11,r.orders.map cOrder⟩,none,some ⟨.of 55,2,r.closed.map cTrip⟩,some ⟨.of 130,6,r.scans.map cScan⟩,some ⟨.of 3,1,r.skip.map cInt⟩,some ⟨.of 135,4,r.bookings.map cBooking⟩],fun H=>by replace H:=H0 H; unfold ZaJ at H; exact callM_of Tryz.func123 rfl Tryz.ntmps123 Tryz.results123 fun Q hQ hQn=>wk3⟩
end Go.Proofs.YtmcdjilbkmhfoaaGreat
