/- A part of the proof of the statement in the last file of this claim: texts on the language of the program and on its functions. No condition. -/
import Derived.Test.YtbalgkakkoocjaaGreatCFnTwice17
import Derived.Test.YtbalgkakkoocjaaGreatCFnTwice4
import Derived.Test.YtbalgkakkoocjaaGreatCFnTwice5
import Derived.Test.YtbalgkakkoocjaaGreatCFnTwice11
import Derived.Test.YtbalgkakkoocjaaGreatCFnTwice8
import Derived.Test.YtbalgkakkoocjaaGreatCFnTwice12
import Derived.Test.YtbalgkakkoocjaaGreatCFnTwice13
import Derived.Test.YtbalgkakkoocjaaGreatCFnTwice15
import Derived.Test.YtbalgkakkoocjaaGreatCFnTwice14
import Derived.Test.YtbalgkakkoocjaaGreatCFnTwice6
import Derived.Test.YtbalgkakkoocjaaGreatCFnTwice16
set_option linter.unusedVariables false
set_option linter.unusedSimpArgs false
set_option linter.unusedSectionVars false
namespace Go.Proofs.YtbalgkakkoocjaaGreat
open List renaming nodup_cons→Xr,length_cons→VX,map_cons→Wx,sum_cons→WT,foldl_cons→WI,mem_cons→V4,Nodup→XE,getElem_mem→Wm,getLast?_eq_getElem?→YC,length_take→V8,getElem?_take→WN,any_eq_true→W3,mem_filter→Xj,getElem_of_mem→Wf,getElem?_eq_getElem→VT,pairwise_iff_getElem→WG,all_eq_true→V5,mem_range→WW,countP_eq_length_filter→Ys,length_map→Wg,pairwise_map→Xf,mem_map→WS,take_of_length_le→Xi,length_drop→WK,length_nil→VY,take_succ_eq_append_getElem→Xe,take_length→Xo,mem_of_getElem?→VW,length_append→V2,getElem?_eq_some_iff→VU,getLast?_eq_none_iff→YD,getElem?_append_left→Wd,mem_append→WC,getElem?_append_right→We,mem_append_left→Xd,nodup_append→Yf,mem_append_right→XB,length_set→WL,getElem?_set_self→Wl,getElem?_set_ne→Wt,append_nil→Xc,any_eq_false→XN,drop_eq_nil_of_le→XU,nil_append→WM,mem_singleton→Wc,countP_cons→Ym,countP_le_length→Xy,pairwise_append→XZ,ext_getElem?→Yj,map_append→Xq,getLast?_cons_cons→W5
open List.Pairwise renaming nil→XH,sublist→XD
open Nat renaming min_eq_left→X4,le_trans→Wq,zero_add→Wb,le_refl→V3,lt_or_ge→WB
open Bool renaming not_eq_true'→Wa,and_eq_false_imp→Xx,and_eq_true→VZ,true_and→WH,not_true→V0,and_self→W8,decide_and→XX
open _root_.Int renaming le_refl→Wv,toNat→Wo,toNat_natCast→WY,reduceEq→Yo
open Option renaming getD_some→Ws,bind_some→VS,map_some→Wr
open Option.some renaming inj→VV,injEq→V1
open Prod renaming fst→XR,snd→X3
set_option maxRecDepth 10000
open Go.RowKit
variable {a:cg}{aV ar p:ByteArray}{bs:List ao}{k:Nat}{rest ts:List au}{α:Type}{x:α}
theorem qT{α:Type}[DecidableEq α]:∀{xs ys:List α},xs.Nodup→(∀x∈xs,x∈ys)→xs.length≤ys.length
 | [],ys,_,_=>Nat.zero_le _
 |x::xs,ys,hn,hs=>by
  obtain⟨h1,h2⟩:=Xr.1 hn
  have hx:=hs x (by simp)
  have:=qT (ys:=ys.erase x) h2 fun y hy=>(List.mem_erase_of_ne (fun e:y=x=>h1 (e▸hy))).2 (hs y (by simp[hy]))
  rw[List.length_erase_of_mem hx]at this
  have:=List.length_pos_of_mem hx
  simp only[VX];omega
theorem Ny{α:Type}(f:α→Nat):∀{l:List α} {i:Nat} {o:α} (x:α),l[i]?=some o→((l.set i x).map f).sum+f o=(l.map f).sum+f x
 | [],_,_,_,h=>by simp at h
 |a::l,0,o,x,h=>by
  obtain rfl:a=o:=by simpa using h
  simp only[List.set_cons_zero,Wx,WT];omega
 |a::l,i+1,o,x,h=>by
  have:=Ny f x (l:=l) (i:=i) (o:=o) (by simpa using h)
  simp only[List.set_cons_succ,Wx,WT];omega
theorem FL:∀(os:List az) (a:Nat),(∀o∈os,o.aE.length≤1048576)→a+1048576*os.length≤1099511627776→os.foldl (fun a (o:az)=>aL (a+(o.aE.length:Int))) (a:Int)=((a+(os.map fun o=>o.aE.length).sum:Nat):Int)
 | [],a,_,_=>by simp
 |o::os,a,h,hb=>by
  have h1:=h o (by simp)
  simp only[VX]at hb
  rw[WI,aQ (by omega),show((a:Int)+(o.aE.length:Int))=((a+o.aE.length:Nat):Int)by omega,FL os _ (fun x hx=>h x (by simp[hx])) (by omega)]
  simp only[Wx,WT];omega
/-! Zgm in two parts. -/
section
variable {n:aj}
def KV(n:aj)(p:ByteArray)(ts:List au):ByteArray:=ts.foldl (fun _ t=>bU n t) p
def N9(n:aj)(a:Int)(ts:List au):Int:=ts.foldl (fun _ t=>cS n t+n.change) a
theorem wh:∀(xs:List au) {ys:List au} {p:ByteArray} {a:Int},gy n p a (xs++ys)↔gy n p a xs∧gy n (KV n p xs) (N9 n a xs) ys
 | [],ys,p,a=>by simp[gy,KV,N9]
 |x::xs,ys,p,a=>by
  have:=wh xs (ys:=ys) (p:=bU n x) (a:=cS n x+n.change)
  simp only[List.cons_append,gy,KV,N9,WI]at this⊢
  rw[this]
  constructor
  ·rintro⟨h1,h2,h3,h4,h5⟩;exact⟨⟨h1,h2,h3,h4⟩,h5⟩
  ·rintro⟨⟨h1,h2,h3,h4⟩,h5⟩;exact⟨h1,h2,h3,h4,h5⟩
theorem yk{a b:Int}(h:gy n p a ts)(Ba:b≤a):gy n p b ts:=by
 cases ts with
 |nil=>trivial
 |cons t ts=>exact⟨h.1,h.2.1,Int.le_trans Ba h.2.2.1,h.2.2.2⟩
variable (hf:cI n) (hn:aU n=some true)
include hf hn
theorem Cd:∀{ts:List au} {p:ByteArray} {a:Int},gy n p a ts→∀t∈ts,a≤cd n t
 |x::ts,p,a,h,t,ht=>by
  rcases V4.1 ht with rfl|ht
  ·exact h.2.2.1
  ·obtain⟨t1,t2,t3,t4,t5⟩:=cH hf hn h.1
   obtain⟨c0,c1⟩:=gm hn
   have:=Cd h.2.2.2 t ht
   have:=h.2.2.1
   omega
theorem Ce:∀{ts:List au} {p:ByteArray} {a:Int},gy n p a ts→ts.Pairwise fun x y=>cd n x<cd n y
 | [],_,_,_=>XH
 |x::ts,p,a,h=>by
  obtain⟨t1,t2,t3,t4,t5⟩:=cH hf hn h.1
  obtain⟨c0,c1⟩:=gm hn
  refine List.pairwise_cons.2 ⟨fun y hy=>?_,Ce h.2.2.2⟩
  have:=Cd hf hn h.2.2.2 y hy
  omega
theorem sZ{a:Int}(h:gy n p a ts):ts.Nodup:=by
 unfold XE
 exact(Ce hf hn h).imp fun {a b} bF e=>by rw[e]at bF;omega
theorem Sg(hp:0≤bb (ak n) p)(h:∀t∈ts,et n t=true):0≤bb (ak n) (KV n p ts):=by
 induction ts generalizing p with
 |nil=>exact hp
 |cons t ts ih=>
  obtain⟨y,hy,MS⟩:=dG hf (h t (by simp))
  have e:bU n t=y.aV:=by unfold bU;rw[hy];rfl
  have:=ih (p:=bU n t) (by rw[e];exact mZ (pD MS).2) fun x hx=>h x (by simp[hx])
  exact this
end
theorem Zbq{l:List ByteArray}(h:0≤bb l p):p∈l:=by
 unfold bb at h
 cases hx:l.findIdx? fun y=>decide (y=p)with
 |none=>rw[hx]at h;simp at h
 |some k=>
  obtain⟨h1,h2,_⟩:=List.findIdx?_eq_some_iff_getElem.1 hx
  exact of_decide_eq_true h2▸Wm h1
theorem tL{n:aj}{p:ByteArray}:∀{ts:List au} {t:au},ts.getLast?=some t→KV n p ts=bU n t
 | [],_,h=>by simp at h
 | [x],t,h=>by obtain rfl:x=t:=by simpa using h
               rfl
 |x::y::ts,t,h=>by
  have:=tL (n:=n) (p:=bU n x) (ts:=y::ts) (t:=t) (by simpa using h)
  exact this
theorem EM{n:aj}{a:Int}:∀{ts:List au} {t:au},ts.getLast?=some t→N9 n a ts=cS n t+n.change
 | [],_,h=>by simp at h
 | [x],t,h=>by obtain rfl:x=t:=by simpa using h
               rfl
 |x::y::ts,t,h=>by
  have:=EM (n:=n) (a:=cS n x+n.change) (ts:=y::ts) (t:=t) (by simpa using h)
  exact this
theorem getLast_take{l:List α}(h0:0<k)(h1:k≤l.length):(l.take k).getLast?=l[k-1]?:=by
 rw[YC,V8,X4 h1,WN,if_pos (by omega)]
/-! P2 of Zgj some are dropped. -/
def nY(id:Int)(rest:List au)(bs:List ao):List ao:=bs.filter fun b=>!(decide (b.bk=id)&&ct rest b.bf)
theorem jg{l:List au}{t:au}:ct l t=true↔t∈l:=by
 unfold ct
 rw[W3]
 exact⟨fun⟨x,h1,h2⟩=>of_decide_eq_true h2▸h1,fun h=>⟨t,h,decide_eq_true rfl⟩⟩
theorem Fb{id:Int}{b:ao}:b∈nY id rest bs↔b∈bs∧¬(b.bk=id∧b.bf∈rest):=by
 unfold nY
 rw[Xj]
 simp only[Wa,Xx,decide_eq_true_iff,not_and]
 refine and_congr_right fun _=>⟨fun h h1 h2=>?_,fun h h1=>?_⟩
 ·have:=h h1;rw[jg.2 h2]at this;cases this
 ·cases hc:ct rest b.bf with
  |false=>rfl
  |true=>exact absurd (jg.1 hc) (h h1)
theorem EK(id:Int)(bs:List ao):nY id [] bs=bs:=by
 unfold nY
 exact List.filter_eq_self.2 fun b _=>by simp[ct]
theorem OK{l l':List ao}(h:l'.Sublist l)(hw:∀b∈l,1≤b.ab∧b.ab≤1000000)(t:au):gG l' t≤gG l t:=by
 induction h with
 |slnil=>exact Wv _
 |cons a h ih=>
  have:=ih fun b hb=>hw b (by simp[hb])
  have:=hw a (by simp)
  unfold gG at *
  simp only[Wx,WT]
  split<;>omega
 |cons_cons a h ih=>
  have:=ih fun b hb=>hw b (by simp[hb])
  unfold gG at *
  simp only[Wx,WT]
  omega
theorem zv{n:aj}(hf:cI n){l l':List ao}(hb:bJ n l=true)(hs:l'.Sublist l):bJ n l'=true:=by
 obtain⟨hn,hl⟩:=cW hb
 have DV:=hs.length_le
 have hw:∀b∈l,1≤b.ab∧b.ab≤1000000:=fun b hm=>by
  obtain⟨i,hi,rfl⟩:=Wf hm
  have h1:=(tE hb hi).1
  unfold F7 at h1
  rw[VT hi]at h1
  simp only[VZ,decide_eq_true_iff]at h1
  exact h1.1.2
 have hp:l'.Pairwise fun a b=>nj a b=true:=by
  refine XD hs ?_
  exact WG.2 fun i j hi hj xa=>rm hb j i hj xa
 unfold bJ
 rw[hn]
 simp only[Ws,WH,VZ,decide_eq_true_iff]
 refine⟨by omega,V5.2 fun i hi=>?_⟩
 have lV:i<l'.length:=WW.1 hi
 obtain⟨j,hj,hje⟩:=Wf (hs.subset (Wm lV))
 obtain⟨b1,b2⟩:=tE hb hj
 unfold F7 at b1
 unfold Km at b2
 rw[VT hj,hje]at b1 b2
 simp only[VZ]at b1⊢
 constructor
 ·unfold F7
  rw[VT lV]
  simp only[VZ]
  refine⟨b1.1,?_⟩
  cases i with
  |zero=>rfl
  |succ i=>
   have hi2:i<l'.length:=by omega
   have:=WG.1 hp i (i+1) hi2 lV (by omega)
   rw[show i+1-1=i by omega,VT hi2]
   simp only[this,Bool.or_true]
 ·unfold Km
  rw[VT lV]
  have Uz:∀b∈l',1≤b.ab∧b.ab≤1000000:=fun b hb=>hw b (hs.subset hb)
  simp only[zM (show l.length≤1000 by omega) hw]at b2
  simp only[zM (show l'.length≤1000 by omega) Uz]
  cases hg:aC n.ay l'[i].bf.bx with
  |none=>rw[hg]at b2;cases b2
  |some g=>
   rw[hg]at b2
   simp only[Wa,decide_eq_false_iff_not]at b2⊢
   have:=OK hs hw l'[i].bf
   omega
theorem tJ(id:Int)(rest:List au)(bs:List ao):(nY id rest bs).Sublist bs:=List.filter_sublist
theorem vk{n:aj}{l:List ao}(hb:bJ n l=true):l.Nodup:=by
 unfold XE
 refine WG.2 fun i j hi hj xa e=>?_
 have:=rm hb j i hj xa
 rw[yi (by rw[e]) (by rw[e])]at this
 cases this
theorem N8{n:aj}{l:List ao}(hb:bJ n l=true){id wt:Int}(hr:rest.Nodup)(hm:∀t∈rest,(⟨id,t,wt⟩:ao)∈l):(nY id rest l).length+rest.length=l.length:=by
 have hu:=B7 hb
 have e:=List.length_eq_countP_add_countP (p:=fun b:ao=>decide (b.bk=id)&&ct rest b.bf) (l:=l)
 have e2:l.countP (fun b=>decide ¬(decide (b.bk=id)&&ct rest b.bf)=true)=(nY id rest l).length:=by
  rw[Ys]
  unfold nY
  congr 2
  funext b
  cases decide (b.bk=id)&&ct rest b.bf<;>rfl
 have e3:l.countP (fun b:ao=>decide (b.bk=id)&&ct rest b.bf)=rest.length:=by
  rw[Ys]
  refine Nat.le_antisymm ?_ ?_
  ·have el:((l.filter fun b=>decide (b.bk=id)&&ct rest b.bf).map fun b:ao=>b.bf).length=(l.filter fun b=>decide (b.bk=id)&&ct rest b.bf).length:=Wg ..
   rw[←el]
   refine qT ?_ fun t ht=>?_
   ·unfold XE
    rw[Xf]
    refine(XD List.filter_sublist (vk hb)).imp_of_mem fun {a b} ha uX iw e=>iw ?_
    have ha:=Xj.1 ha
    have uX:=Xj.1 uX
    simp only[VZ,decide_eq_true_iff]at ha uX
    exact hu a ha.1 b uX.1 (ha.2.1.trans uX.2.1.symm) e
   ·obtain⟨b,uY,rfl⟩:=WS.1 ht
    have:=(Xj.1 uY).2
    simp only[VZ]at this
    exact jg.1 this.2
  ·have el:(rest.map fun t=>(⟨id,t,wt⟩:ao)).length=rest.length:=Wg ..
   rw[←el]
   refine qT ?_ fun b uY=>?_
   ·unfold XE
    rw[Xf]
    exact hr.imp fun {a b} iw e=>iw (by simpa using e)
   ·obtain⟨t,ht,rfl⟩:=WS.1 uY
    refine Xj.2 ⟨hm t ht,?_⟩
    simp only[decide_true,WH]
    exact jg.2 ht
 rw[e3]at e
 have e':l.length=rest.length+l.countP (fun b=>decide ¬(decide (b.bk=id)&&ct rest b.bf)=true):=e
 rw[e2]at e'
 omega
set_option maxHeartbeats 16000000
def iK(w:av)(id:Int)(y2:Int)(s0:Int×(List ao)):Option ((Int×(List ao))⊕(List ao)):=
 cond (decide (s0.1<(w.aq.length:Int)))
 ((aC w.aq s0.1).bind fun y3=>
 cond (!decide (y3.bk=id))
 ((cL (bo ((s0.2:List ao).length+([y3]:List ao).length) 32)).bind fun _=>
 some (.inl ((aL (s0.1+1)),((s0.2:List ao)++[y3]))))
 ((w7 w.ah (aL (id-1))).bind fun y4=>
 (cL (gA y2 (y4.aE.length:Int) y4.aE.length)).bind fun _=>
 (eM (cD y4.aE y2 (y4.aE.length:Int)) y3.bf).bind fun y5=>
 cond (!y5)
 ((cL (bo ((s0.2:List ao).length+([y3]:List ao).length) 32)).bind fun _=>
 some (.inl ((aL (s0.1+1)),((s0.2:List ao)++[y3]))))
 (some (.inl ((aL (s0.1+1)),s0.2)))))
 (some (.inr s0.2))
instance (w:av)(id:Int)(y2:Int):bm (iK w id y2):=⟨fun s0=>(.be 0 0 0::vi id::.un::.un::.be 3 (Wo (aL (id-1))) 0::vi y2::.ms 8::(U 22 (.ms 4::vi (w.aq.length:Int)::vi s0.1::(U 132 [])))),fun s0=>[some ⟨.of 33,10,[[.ms 1,.ms 2,vi w.aa.change,.ms 3,.ms 4,.ms 5,vi w.now,.ms 6,.ms 7,vi w.bd]]⟩,some ⟨.of 174,6,w.aa.ay.map bp⟩,some ⟨.of 3,1,w.aa.off.map aG⟩,some ⟨.of 155,11,w.ah.map bc⟩,some ⟨.of 177,4,w.aq.map aB⟩,some ⟨.of 46,2,w.ae.map aS⟩,some ⟨.of 181,6,w.aH.map bt⟩,some ⟨.of 3,1,w.skip.map aG⟩,some ⟨.of 177,4,s0.2.map aB⟩]⟩
def eO(w:av)(id:Int):Option av:=
 (aC w.ah (aL (id-1))).bind fun y1=>
 (gD y1).bind fun y2=>
 (aD (iK w id y2) NN (0,([]:List ao))).bind (fun o0=>
 (w7 w.ah (aL (id-1))).bind fun y6=>
 (cL (gA 0 y2 y6.aE.length)).bind fun _=>
 (eW (cD y6.aE 0 y2)).bind fun y7=>
 (w7 w.ah (aL (id-1))).bind fun y8=>
 cond (decide (0<y2))
 ((aC y7 (aL (y2-1))).bind fun y9=>
 (dg w.aa y9).bind fun dM=>
 (w7 w.ah (aL (id-1))).bind fun jx=>
 (jr w.aa (⟨y8.ar,y8.aV,y8.ax,y8.ab,y8.aO,y8.dX,y7,y8.aJ,y8.state,y8.place,y8.bD⟩:az)).bind fun oV=>
 (w7 w.ah (aL (id-1))).bind fun lZ=>
 (il w.aa o0 w.ae oV y8.aV (if(aL (dM+w.aa.change)) > (aL (w.now+1))then(aL (dM+w.aa.change))else(aL (w.now+1))) y8.ab).bind fun kS=>
 cond (!kS.2)
 (some (⟨w.aa,(w.ah.set (Wo (aL (id-1))) (⟨y8.ar,y8.aV,y8.ax,y8.ab,y8.aO,y8.dX,y7,y8.aJ,y8.state,y8.place,y8.bD⟩:az)),o0,w.ae,w.now,w.aH,w.skip,w.bd⟩:av))
 ((w7 w.ah (aL (id-1))).bind fun o9=>
 (fm w.aa o0 id y8.ab kS.1).bind fun ma=>
 cond ma.2
 ((w7 w.ah (aL (id-1))).bind fun ri=>
 (cL (bo ((y7:List au).length+(kS.1:List au).length) 16)).bind fun _=>
 some (⟨w.aa,(w.ah.set (Wo (aL (id-1))) (⟨y8.ar,y8.aV,y8.ax,y8.ab,y8.aO,y8.dX,((y7:List au)++kS.1),y8.aJ,y8.state,y8.place,y8.bD⟩:az)),ma.1,w.ae,w.now,w.aH,w.skip,w.bd⟩:av))
 (some (⟨w.aa,(w.ah.set (Wo (aL (id-1))) (⟨y8.ar,y8.aV,y8.ax,y8.ab,y8.aO,y8.dX,y7,y8.aJ,y8.state,y8.place,y8.bD⟩:az)),o0,w.ae,w.now,w.aH,w.skip,w.bd⟩:av))))
 ((jr w.aa (⟨y8.ar,y8.aV,y8.ax,y8.ab,y8.aO,y8.dX,y7,y8.aJ,y8.state,y8.place,y8.bD⟩:az)).bind fun sw=>
 (w7 w.ah (aL (id-1))).bind fun vW=>
 (il w.aa o0 w.ae sw y8.aV (aL (w.now+1)) y8.ab).bind fun Bj=>
 cond (!Bj.2)
 (some (⟨w.aa,(w.ah.set (Wo (aL (id-1))) (⟨y8.ar,y8.aV,y8.ax,y8.ab,y8.aO,y8.dX,y7,y8.aJ,y8.state,y8.place,y8.bD⟩:az)),o0,w.ae,w.now,w.aH,w.skip,w.bd⟩:av))
 ((w7 w.ah (aL (id-1))).bind fun xX=>
 (fm w.aa o0 id y8.ab Bj.1).bind fun AX=>
 cond AX.2
 ((w7 w.ah (aL (id-1))).bind fun FR=>
 (cL (bo ((y7:List au).length+(Bj.1:List au).length) 16)).bind fun _=>
 some (⟨w.aa,(w.ah.set (Wo (aL (id-1))) (⟨y8.ar,y8.aV,y8.ax,y8.ab,y8.aO,y8.dX,((y7:List au)++Bj.1),y8.aJ,y8.state,y8.place,y8.bD⟩:az)),AX.1,w.ae,w.now,w.aH,w.skip,w.bd⟩:av))
 (some (⟨w.aa,(w.ah.set (Wo (aL (id-1))) (⟨y8.ar,y8.aV,y8.ax,y8.ab,y8.aO,y8.dX,y7,y8.aJ,y8.state,y8.place,y8.bD⟩:az)),o0,w.ae,w.now,w.aH,w.skip,w.bd⟩:av)))))
instance (w:av)(id:Int):CT Tryz.prog (eO w id):=⟨212,[.be 0 0 0,vi id],[some ⟨.of 33,10,[[.ms 1,.ms 2,vi w.aa.change,.ms 3,.ms 4,.ms 5,vi w.now,.ms 6,.ms 7,vi w.bd]]⟩,some ⟨.of 174,6,w.aa.ay.map bp⟩,some ⟨.of 3,1,w.aa.off.map aG⟩,some ⟨.of 155,11,w.ah.map bc⟩,some ⟨.of 177,4,w.aq.map aB⟩,some ⟨.of 46,2,w.ae.map aS⟩,some ⟨.of 181,6,w.aH.map bt⟩,some ⟨.of 3,1,w.skip.map aG⟩],fun r=>.tu [],fun r=>[some ⟨.of 33,10,[[.ms 1,.ms 2,vi r.aa.change,.ms 3,.ms 8,.ms 5,vi r.now,.ms 6,.ms 7,vi r.bd]]⟩,some ⟨.of 174,6,r.aa.ay.map bp⟩,some ⟨.of 3,1,r.aa.off.map aG⟩,some ⟨.of 155,11,r.ah.map bc⟩,none,some ⟨.of 46,2,r.ae.map aS⟩,some ⟨.of 181,6,r.aH.map bt⟩,some ⟨.of 3,1,r.skip.map aG⟩,some ⟨.of 177,4,r.aq.map aB⟩],fun H=>by replace H:=H0 H;unfold eO at H;exact aA Tryz.func212 rfl Tryz.ntmps212 Tryz.results212 fun Q hQ cR=>dU⟩
def fx(n:aj)(o:az):ByteArray:=if o.state=2 then((o.aE[o.aJ.toNat]?).map (bU n)).getD ⟨#[]⟩else o.place
def bQ(o:az):List au:=o.aE.take (aX o).toNat
def kK(o:az):List au:=o.aE.drop (aX o).toNat
def atR(n:aj)(now:Int)(o:az):Int:=match(bQ o).getLast? with
 |some t=>if cS n t+n.change > now+1 then cS n t+n.change else now+1
 |none=>now+1
def fQ(w:av)(i:Nat)(o:az):List ao:=nY ((i+1:Nat):Int) (kK o) w.aq
def eT(o:az)(ts:List au):az:=⟨o.ar,o.aV,o.ax,o.ab,o.aO,o.dX,ts,o.aJ,o.state,o.place,o.bD⟩
def vF(w:av)(i:Nat)(o:az)(ts:List au)(bs:List ao):av:=⟨w.aa,w.ah.set i (eT o ts),bs,w.ae,w.now,w.aH,w.skip,w.bd⟩
def P8(w:av)(i:Nat)(o:az):Prop:=(∃x,bE w.aa (fQ w i o) w.ae (fx w.aa o) o.aV (atR w.aa w.now o) o.ab=some (x,false))∨
 ∃aE,bE w.aa (fQ w i o) w.ae (fx w.aa o) o.aV (atR w.aa w.now o) o.ab=some (aE,true)∧ck w.aa (fQ w i o) ((i+1:Nat):Int) o.ab aE=some (fQ w i o,false)
structure P7(w:av)(i:Nat)(o:az)(aE:List au)(bs:List ao):Prop where
 fy:bE w.aa (fQ w i o) w.ae (fx w.aa o) o.aV (atR w.aa w.now o) o.ab=some (aE,true)
 book:ck w.aa (fQ w i o) ((i+1:Nat):Int) o.ab aE=some (bs,true)
 Kj:Qd w.aa (fQ w i o) w.ae o.ab (fx w.aa o) o.aV (atR w.aa w.now o) aE
 perm:bs.Perm (fQ w i o++ff ((i+1:Nat):Int) o.ab aE)
 kH:bJ w.aa bs=true
def um(w:av)(i:Nat)(o:az)(w':av):Prop:=(P8 w i o∧w'=vF w i o (bQ o) (fQ w i o))∨∃aE bs,P7 w i o aE bs∧w'=vF w i o (bQ o++aE) bs
section
variable {w:av} {i:Nat} {o:az}
theorem OG(hb:w.aq.length≤1000)(ho:aC w.ah (i:Int)=some o)(hl:o.aE.length≤1048576)(hi:i≤1000){k:Int}(hk:0≤k∧k≤o.aE.length):
 aD (iK w ((i+1:Nat):Int) k) NN (0,[])=some (nY ((i+1:Nat):Int) (o.aE.drop k.toNat) w.aq):=by
 have hid:aL (((i+1:Nat):Int)-1)=(i:Int):=by rw[aQ (by omega)];omega
 have tS:cD o.aE k (o.aE.length:Int)=o.aE.drop k.toNat:=by
  unfold cD
  rw[Xi (by rw[WK];omega)]
 have zo:cL (gA k (o.aE.length:Int) o.aE.length)=some ():=pR (by unfold gA;exact decide_eq_true ⟨hk.1,hk.2,Wv _⟩)
 refine lp (body:=iK w ((i+1:Nat):Int) k) (fun j:Nat=>((j:Int),nY ((i+1:Nat):Int) (o.aE.drop k.toNat) (w.aq.take j))) (n:=w.aq.length) (fun j hj=>?_) ?_ NN (by unfold NN;omega)
 ·have hg:aC w.aq (j:Int)=some w.aq[j]:=by rw[aR];exact VT hj
  have hw:aL ((j:Int)+1)=((j+1:Nat):Int):=bI hj (by omega)
  have EV:(nY ((i+1:Nat):Int) (o.aE.drop k.toNat) (w.aq.take j)).length≤1000:=Wq (List.length_filter_le _ _) (by rw[V8];omega)
  have ha:cL (bo ((nY ((i+1:Nat):Int) (o.aE.drop k.toNat) (w.aq.take j)).length+([w.aq[j]]:List ao).length) 32)=some ():=eR (by simp only[VX,VY];omega) (by omega)
  have hs:nY ((i+1:Nat):Int) (o.aE.drop k.toNat) (w.aq.take (j+1))=nY ((i+1:Nat):Int) (o.aE.drop k.toNat) (w.aq.take j)++(if(decide (w.aq[j].bk=((i+1:Nat):Int))&&ct (o.aE.drop k.toNat) w.aq[j].bf)=true then []else [w.aq[j]]):=by
   unfold nY
   rw[Xe hj,List.filter_append]
   simp only[List.filter_cons,List.filter_nil]
   cases decide (w.aq[j].bk=((i+1:Nat):Int))&&ct (o.aE.drop k.toNat) w.aq[j].bf<;>rfl
  unfold iK
  simp only[decide_eq_true (show(j:Int)<w.aq.length by omega),cond_true,hg,VS,hw,ha]
  rw[hs]
  by_cases h:w.aq[j].bk=((i+1:Nat):Int)
  ·rw[decide_eq_true h]
   simp only[V0,cond_false,w7,hid,ho,VS,zo,tS,fC (show(o.aE.drop k.toNat).length≤1048576 by rw[WK];omega),WH]
   have e:((o.aE.drop k.toNat).any fun y=>decide (y=w.aq[j].bf))=ct (o.aE.drop k.toNat) w.aq[j].bf:=rfl
   rw[e]
   cases ct (o.aE.drop k.toNat) w.aq[j].bf with
   |true=>simp
   |false=>rfl
  ·rw[decide_eq_false h];rfl
 ·unfold iK
  simp[Xo]
variable (hf:pY w) (hn:aU w.aa=some true) (hb:bJ w.aa w.aq=true) (CF:0≤w.now∧w.now≤100000) (hi:i≤1000)
 (ho:w.ah[i]?=some o) (hg:0≤o.aJ∧o.aJ≤o.aE.length) (h2:o.state=2→o.aJ<o.aE.length) (ht:∀t∈o.aE,et w.aa t=true) (K7:o.aE.length≤1000)
include hf hn hb CF hi ho hg h2 ht K7
theorem Vm:∃w',eO w ((i+1:Nat):Int)=some w'∧um w i o w':=by
 have hl:=hf.aE o (VW ho)
 obtain⟨_,uk⟩:=cW hb
 obtain⟨c0,c1⟩:=gm hn
 have MQ:aC w.ah (i:Int)=some o:=by rw[aR];exact ho
 have hid:aL (((i+1:Nat):Int)-1)=(i:Int):=by rw[aQ (by omega)];omega
 have hk:0≤aX o∧aX o≤o.aE.length:=by
  unfold aX
  by_cases h:o.state=2
  ·rw[if_pos h];have:=h2 h;omega
  ·rw[if_neg h];exact hg
 have EU:gD o=some (aX o):=by
  rw[(s7 hg hl).2.2,if_neg (by omega)]
 have hkl:(bQ o).length=(aX o).toNat:=by unfold bQ;rw[V8];omega
 have tS:cD o.aE 0 (aX o)=bQ o:=by unfold cD bQ;simp
 have zo:cL (gA 0 (aX o) o.aE.length)=some ():=pR (by unfold gA;exact decide_eq_true ⟨Wv _,hk.1,hk.2⟩)
 have hct:eW (bQ o)=some (bQ o):=s8 (by omega)
 have wA:aL (w.now+1)=w.now+1:=aQ (by omega)
 have DV:(fQ w i o).length≤120:=Wq (tJ _ _ _).length_le uk
 have sn:=zv hf.ey hb (tJ ((i+1:Nat):Int) (kK o) w.aq)
 have Bb:jr w.aa (eT o (bQ o))=some (fx w.aa o):=by
  have e0:jr w.aa (eT o (bQ o))=cond (decide (o.state=2)) ((aC (bQ o) o.aJ).bind fun y1=>(aC w.aa.ay y1.bx).bind fun y2=>some y2.aV) (some o.place):=rfl
  rw[e0]
  unfold fx
  by_cases h:o.state=2
  ·have h3:=h2 h
   have zm:o.aJ.toNat<o.aE.length:=by omega
   have e1:aC (bQ o) o.aJ=some o.aE[o.aJ.toNat]:=by
    unfold aC bQ aX
    rw[if_pos hg.1,if_pos h,WN,if_pos (by omega)]
    exact VT zm
   obtain⟨y,hy,_⟩:=dG hf.ey (ht _ (Wm zm))
   rw[decide_eq_true h,cond_true,e1,VS,hy,VS,if_pos h,VT zm,Wr,Ws]
   unfold bU
   rw[hy];rfl
  ·rw[decide_eq_false h,cond_false,if_neg h]
 obtain⟨⟨aE,b⟩,e1,e2⟩:=nF hf.ey (l:=fQ w i o) (by omega) hf.ae (fx w.aa o) o.aV (atR w.aa w.now o) o.ab
 -- Kk follows when the aE was looked for
 have tail:∀a,a=atR w.aa w.now o→∃w',((il w.aa (fQ w i o) w.ae (fx w.aa o) o.aV a o.ab).bind fun kS=>
  cond (!kS.2) (some (vF w i o (bQ o) (fQ w i o)))
  ((w7 w.ah (aL (((i+1:Nat):Int)-1))).bind fun o9=>
  (fm w.aa (fQ w i o) ((i+1:Nat):Int) o.ab kS.1).bind fun ma=>
  cond ma.2
  ((w7 w.ah (aL (((i+1:Nat):Int)-1))).bind fun ri=>
  (cL (bo (((bQ o):List au).length+(kS.1:List au).length) 16)).bind fun _=>
  some (vF w i o (bQ o++kS.1) ma.1))
  (some (vF w i o (bQ o) (fQ w i o)))))=some w'∧um w i o w':=by
  rintro a rfl
  rw[e1,VS]
  cases b with
  |false=>exact⟨_,rfl,.inl ⟨.inl ⟨aE,e2⟩,rfl⟩⟩
  |true=>
  have hR:=nI hf.ey (show(fQ w i o).length≤1048576 by omega) hf.ae e2
  have hlen:=hR.len
  have xb:(ff ((i+1:Nat):Int) o.ab aE).length=aE.length:=by unfold ff;rw[Wg]
  obtain⟨d,d1,d2⟩:=DC (fQ w i o++ff ((i+1:Nat):Int) o.ab aE) (by rw[V2,xb];omega)
  have D6:fm w.aa (fQ w i o) ((i+1:Nat):Int) o.ab aE=ck w.aa (fQ w i o) ((i+1:Nat):Int) o.ab aE:=by
   unfold fm
   rw[if_pos ⟨Ct.2 hf.ey,by omega,by omega⟩]
  have vw:=sj hf.ey (show(fQ w i o).length≤1048000 by omega) ((i+1:Nat):Int) o.ab d1 d2
  simp only[V0,cond_false,w7,hid,MQ,VS]
  rw[D6]
  by_cases Re:bJ w.aa d=true
  ·rw[if_pos ⟨sn,hlen,Re⟩]at vw
   have ha:cL (bo ((bQ o).length+aE.length) 16)=some ():=eR (by omega) (by omega)
   exact⟨_,by rw[vw];simp only[VS,cond_true,ha],.inr ⟨aE,d,⟨e2,vw,hR,d1,Re⟩,rfl⟩⟩
  ·rw[if_neg (fun hx=>Re hx.2.2)]at vw
   exact⟨_,by rw[vw];rfl,.inl ⟨.inr ⟨aE,e2,vw⟩,rfl⟩⟩
 unfold eO
 simp only[w7,hid,MQ,VS,EU,OG (show w.aq.length≤1000 by omega) MQ hl hi hk,zo,tS,hct]
 have Ri:nY ((i+1:Nat):Int) (List.drop (aX o).toNat o.aE) w.aq=fQ w i o:=rfl
 rw[Ri]
 by_cases h0:0<aX o
 ·have Th:(aX o).toNat-1<o.aE.length:=by omega
  have nn:(bQ o).getLast?=some o.aE[(aX o).toNat-1]:=by
   unfold bQ
   rw[getLast_take (by omega) (by omega)]
   exact VT Th
  have hgk:aC (bQ o) (aL (aX o-1))=some o.aE[(aX o).toNat-1]:=by
   rw[aQ (by omega)]
   unfold aC bQ
   rw[if_pos (by omega),WN,if_pos (by omega),show(aX o-1).toNat=(aX o).toNat-1 by omega]
   exact VT Th
  obtain⟨t1,t2,t3,t4,t5⟩:=cH hf.ey hn (ht _ (Wm Th))
  have he:dg w.aa o.aE[(aX o).toNat-1]=some (cS w.aa o.aE[(aX o).toNat-1]):=by rw[rY];exact t2
  have hwe:aL (cS w.aa o.aE[(aX o).toNat-1]+w.aa.change)=cS w.aa o.aE[(aX o).toNat-1]+w.aa.change:=aQ (by omega)
  have Rc:(if cS w.aa o.aE[(aX o).toNat-1]+w.aa.change > w.now+1 then cS w.aa o.aE[(aX o).toNat-1]+w.aa.change else w.now+1)=atR w.aa w.now o:=by
   unfold atR;rw[nn]
  rw[decide_eq_true h0,cond_true,hgk]
  simp only[VS,he,wA,hwe]
  have Za6:jr w.aa ⟨o.ar,o.aV,o.ax,o.ab,o.aO,o.dX,bQ o,o.aJ,o.state,o.place,o.bD⟩=some (fx w.aa o):=Bb
  rw[Za6,VS]
  obtain⟨w',q1,q2⟩:=tail _ Rc
  refine⟨w',?_,q2⟩
  rw[←q1]
  simp only[w7,hid,MQ,VS,vF,eT,WY]
 ·have nn:(bQ o).getLast?=none:=by
   unfold bQ
   rw[show(aX o).toNat=0 by omega];rfl
  have Rc:w.now+1=atR w.aa w.now o:=by unfold atR;rw[nn]
  rw[decide_eq_false h0,cond_false]
  have Za6:jr w.aa ⟨o.ar,o.aV,o.ax,o.ab,o.aO,o.dX,bQ o,o.aJ,o.state,o.place,o.bD⟩=some (fx w.aa o):=Bb
  rw[Za6,VS,wA]
  obtain⟨w',q1,q2⟩:=tail _ Rc
  refine⟨w',?_,q2⟩
  rw[←q1]
  simp only[w7,hid,MQ,VS,vF,eT,WY]
end
def vH(n:aj)(bs:List ao)(cl:List au)(now:Int)(i:Nat)(o:az):Bool:=iV ⟨n,[],bs,cl,now,[],[],0⟩ i o
theorem OY(w:av)(i:Nat)(o:az):iV w i o=vH w.aa w.aq w.ae w.now i o:=rfl
structure tB(w:av)(c:Nat→List au):Prop where
 fit:pY w
 kH:bJ w.aa w.aq=true
 now:0≤w.now∧w.now≤100000
 GG:w.ah.length≤30
 ord:∀(i:Nat) (o:az),w.ah[i]?=some o→vH w.aa w.aq (c i) w.now i o=true
 sum:(w.ah.map fun o=>o.aE.length).sum=w.aq.length
 cl:∀i,(c i).length≤1048576
theorem RL{α:Type}(f:α→Nat):∀{l:List α} {x:α},x∈l→f x≤(l.map f).sum
 |a::l,x,h=>by
  simp only[Wx,WT]
  rcases V4.1 h with rfl|h
  ·omega
  ·have:=RL f h;omega
theorem NH{w:av}(hf:pY w)(ho:w.ah.length≤1000):uM w=((w.ah.map fun o=>o.aE.length).sum:Nat):=by
 have:=FL w.ah 0 hf.aE (by omega)
 rw[Wb]at this
 exact this
structure BM(w:av):Prop where
 ae:w.ae.length≤20
 aH:w.aH.length≤200
 skip:w.skip.length≤50
 bd:w.aH.length≤w.bd∧w.bd≤1000000000
 cl:allI (rV w) 0 w.ae=true
 sc:allI (xg w) 0 w.aH=true
theorem pX{w:av}(h:pL w):tB w (fun _=>w.ae)∧BM w:=by
 obtain⟨p1,p2,p3,p4,p5,p6,p7⟩:=h.parts
 have hv:=h.ok
 unfold eu at hv
 simp only[VZ,Wa,decide_eq_true_iff,decide_eq_false_iff_not]at hv
 obtain⟨⟨⟨⟨⟨⟨⟨⟨⟨⟨h1,h2⟩,h3⟩,h4⟩,h5⟩,h6⟩,h7⟩,h8⟩,h9⟩,xZ⟩,Cz⟩:=hv
 refine⟨⟨h.fit,h1,p1,p2,fun i o ho=>?_,?_,fun _=>h.fit.ae⟩,⟨p3,p4,p5,p6,h8,h9⟩⟩
 ·rw[←OY];exact pW h.ok ho
 ·have:=NH h.fit (by omega)
  rw[this]at Cz
  omega
theorem Kl{w:av}(h:tB w (fun _=>w.ae))(k:BM w):pL w:=by
 refine⟨h.fit,?_⟩
 have:=h.GG
 have:=k.ae
 have:=k.aH
 have:=k.skip
 unfold eu
 simp only[VZ,Wa,decide_eq_true_iff,decide_eq_false_iff_not]
 refine⟨⟨⟨⟨⟨⟨⟨⟨⟨⟨h.kH,h.now⟩,by omega⟩,by omega⟩,by omega⟩,by omega⟩,k.bd⟩,k.cl⟩,k.sc⟩,?_⟩,?_⟩
 ·refine cJ.2 fun i o ho=>?_
  rw[Wb]
  exact h.ord i o ho
 ·rw[NH h.fit (by omega),h.sum]
structure Zeh(n:aj)(bs:List ao)(cl:List au)(now:Int)(i:Nat)(o:az):Prop where
 ok:FV ⟨n,[],bs,cl,now,[],[],0⟩ i o
 chain:gy n o.ar (o.aO+1) o.aE
 st:mW n o now
section
variable {w:av} {c:Nat→List au} (h:tB w c) {i:Nat} {o:az} (ho:w.ah[i]?=some o)
include h ho
theorem ue:o.aE.length≤120:=by
 have:=RL (fun o:az=>o.aE.length) (VW ho)
 have:=(cW h.kH).2
 have:=h.sum
 omega
theorem js:Zeh w.aa w.aq (c i) w.now i o:=by
 have hn:=(cW h.kH).1
 have hl:=ue h ho
 have hO:=Jq (w:=⟨w.aa,[],w.aq,c i,w.now,[],[],0⟩) ⟨h.fit.ey,by simp,h.fit.aq,h.cl i,by simp,by simp,by simp⟩ (i:=i) (o:=o) (by omega) (h.ord i o ho)
 have hw:aL (o.aO+1)=o.aO+1:=by
  have h1:0≤o.aO:=hO.aO.1
  have h2:o.aO≤w.now:=hO.aO.2
  have:=h.now
  rw[aQ (by omega)]
 have hc:=AI h.fit.ey hn (by omega) hO.Zat
 rw[hw]at hc
 exact⟨hO,hc,(uh h.fit.ey hn hO.aJ (by omega) hO.bf w.now).1 hO.st⟩
theorem kB:0≤aX o∧aX o≤o.aE.length∧(bQ o).length=(aX o).toNat∧o.aJ≤aX o:=by
 have hO:=(js h ho).ok
 obtain⟨g0,g1⟩:=hO.aJ
 have hk:0≤aX o∧aX o≤o.aE.length∧o.aJ≤aX o:=by
  unfold aX
  by_cases hs:o.state=2
  ·rw[if_pos hs]
   rcases hO.cases with c1|c1|c1
   ·have:=c1.1;omega
   ·have:=c1.2;omega
   ·have:=c1.1;omega
  ·rw[if_neg hs];omega
 refine⟨hk.1,hk.2.1,?_,hk.2.2⟩
 unfold bQ
 rw[V8];omega
theorem sK:o.aE=bQ o++kK o:=(List.take_append_drop _ _).symm
theorem Jb{j:Nat}(hj:j<(bQ o).length):(bQ o)[j]?=o.aE[j]?:=by
 have:=(kB h ho).2.2.1
 unfold bQ
 rw[WN,if_pos (by omega)]
theorem zz(hs:¬o.state=3):KV w.aa o.ar (bQ o)=fx w.aa o:=by
 have hP:=js h ho
 obtain⟨k0,k1,k2,k3⟩:=kB h ho
 obtain⟨g0,g1⟩:=hP.ok.aJ
 unfold fx
 rcases hP.st.cases with⟨s1,s2,s3,s4,s5⟩ |⟨s1,s2,s3,t,t1,t2,t3⟩ |s
 ·rw[if_neg (by omega),s2]
  unfold oW
  have yy:aX o=o.aJ:=by unfold aX;rw[if_neg (by omega)]
  by_cases hg:0<o.aJ
  ·have bF:(o.aJ-1).toNat<o.aE.length:=by omega
   rw[if_pos hg,VT bF]
   refine tL ?_
   unfold bQ
   rw[yy,getLast_take (by omega) (by omega),show o.aJ.toNat-1=(o.aJ-1).toNat by omega,VT bF]
  ·rw[if_neg hg]
   unfold bQ
   rw[yy,show o.aJ.toNat=0 by omega];rfl
 ·rw[if_pos s1,t1]
  refine tL ?_
  have yy:aX o=o.aJ+1:=by unfold aX;rw[if_pos s1]
  have bF:=(VU.1 t1).1
  unfold bQ
  rw[yy,getLast_take (by omega) (by omega),show(o.aJ+1).toNat-1=o.aJ.toNat by omega,t1]
 ·exact absurd s.1 hs
theorem Gc:N9 w.aa (o.aO+1) (bQ o)≤atR w.aa w.now o∧w.now+1≤atR w.aa w.now o∧0≤atR w.aa w.now o:=by
 have hP:=js h ho
 have CF:=h.now
 have h2:o.aO≤w.now:=hP.ok.aO.2
 unfold atR
 cases hl:(bQ o).getLast? with
 |none=>
  rw[YD]at hl
  rw[hl]
  refine⟨?_,?_,?_⟩<;>simp only[N9,List.foldl_nil]<;>omega
 |some t=>
  rw[EM hl]
  simp only
  split<;>omega
theorem Ff{more:List au}(hs:¬o.state=3)(iw:¬fx w.aa o=o.aV)
 (uY:∀t∈bQ o,gE bs ((i+1:Nat):Int) t o.ab=true) (zk:∀t∈more,gE bs ((i+1:Nat):Int) t o.ab=true)
 (hc:gy w.aa (fx w.aa o) (atR w.aa w.now o) more) (hl:more.length≤20) (I0:more=[]∨(fx w.aa o::more.map (bU w.aa)).Nodup∧(fx w.aa o::more.map (bU w.aa)).getLast?=some o.aV)
 (Zdh:more.any (ct w.ae)=false):vH w.aa bs w.ae w.now i (eT o (bQ o++more))=true:=by
 have hP:=js h ho
 have hn:=(cW h.kH).1
 have hlen:=ue h ho
 obtain⟨k0,k1,k2,k3⟩:=kB h ho
 obtain⟨g0,g1⟩:=hP.ok.aJ
 have CF:=h.now
 obtain⟨a1,a2,a3⟩:=Gc h ho
 have hep:=zz h ho hs
 have hv:=h.ord i o ho
 unfold vH iV at hv⊢
 simp only[VZ,Wa,decide_eq_true_iff,decide_eq_false_iff_not]at hv⊢
 obtain⟨⟨⟨⟨⟨⟨⟨⟨⟨⟨⟨h1,h2⟩,h3⟩,h4⟩,h5⟩,h6⟩,h7⟩,h8⟩,h9⟩,xZ⟩,Cz⟩,Tb⟩:=hv
 have zl:gy w.aa o.ar (o.aO+1) (bQ o++more):=by
  have:=hP.chain
  rw[sK h ho]at this
  refine(wh _).2 ⟨((wh _).1 this).1,?_⟩
  rw[hep]
  exact yk hc a1
 have MR:=mX zl
 have CC:∀(j:Nat),j<(bQ o).length→(bQ o++more)[j]?=o.aE[j]?:=fun j hj=>by
  rw[Wd hj]
  exact Jb h ho hj
 refine⟨⟨⟨⟨⟨⟨⟨⟨⟨⟨⟨h1,h2⟩,h3⟩,h4⟩,h5⟩,h6⟩,h7⟩,?_⟩,?_⟩,?_⟩,?_⟩,?_⟩
 ·simp only[eT,V2];omega
 ·refine cJ.2 fun j t hj=>?_
  have wv:(bQ o++more)[j]?=some t:=hj
  have htm:=VW wv
  unfold uj
  simp only[VZ,Wa,Xx,decide_eq_true_iff,decide_eq_false_iff_not,Wb]
  refine⟨⟨MR t htm,?_⟩,fun he hj1=>?_⟩
  ·rcases WC.1 htm with hm|hm
   ·exact uY t hm
   ·exact zk t hm
  ·have Zc6:j+1<(bQ o++more).length:=hj1
   have Rj:bU w.aa t=o.aV:=he
   rw[V2]at Zc6
   by_cases hjk:j<(bQ o).length
   ·rw[CC j hjk]at wv
    have:=cJ.1 h9 j t wv
    unfold uj at this
    simp only[VZ,Wa,Xx,decide_eq_true_iff,decide_eq_false_iff_not,Wb]at this
    have uQ:=this.2 Rj
    have xy:=(VU.1 wv).1
    refine iw ?_
    rw[←hep,←Rj]
    refine tL ?_
    unfold bQ
    rw[getLast_take (by omega) (by omega),show(aX o).toNat-1=j by omega,wv]
   ·rw[We (by omega)]at wv
    rcases I0 with rfl|⟨hnd,hla⟩
    ·simp at wv
    rw[YC,VX,Wg,Nat.add_sub_cancel]at hla
    have q1:(fx w.aa o::more.map (bU w.aa))[j-(bQ o).length+1]?=some o.aV:=by rw[List.getElem?_cons_succ,List.getElem?_map,wv,Wr,Rj]
    have q2:=WG.1 hnd (j-(bQ o).length+1) more.length (by simp;omega) (by simp) (by omega)
    exact q2 ((VU.1 q1).2.trans (VU.1 hla).2.symm)
 ·have hw:aL (o.aO+1)=o.aO+1:=by
   have q1:0≤o.aO:=h6.1
   have q2:o.aO≤w.now:=h6.2
   rw[aQ (by omega)]
  show(eJ w.aa (bQ o++more) o.ar (KV w.aa o.ar (bQ o++more)) (aL (o.aO+1))).getD false=true
  have Bt:(bQ o++more).length≤1048576:=by rw[V2];omega
  rw[hw,Ar h.fit.ey hn Bt (by omega) (Sg h.fit.ey hn (by omega) MR) zl rfl];rfl
 ·have hS:mW w.aa (eT o (bQ o++more)) w.now:=by
   refine⟨fun t hg ht=>?_,?_⟩
   ·have hg':0<o.aJ:=hg
    have zJ:(bQ o++more)[(o.aJ-1).toNat]?=some t:=ht
    rw[CC _ (by omega)]at zJ
    exact hP.st.El t hg' zJ
   ·have I1:oW w.aa (eT o (bQ o++more))=oW w.aa o:=by
     unfold oW
     by_cases hg:0<o.aJ
     ·rw[if_pos hg,if_pos (show 0<(eT o (bQ o++more)).aJ from hg)]
      show(((bQ o++more)[(o.aJ-1).toNat]?).map (bU w.aa)).getD ⟨#[]⟩=_
      rw[CC _ (by omega)]
     ·rw[if_neg hg,if_neg (show ¬0<(eT o (bQ o++more)).aJ from hg)];rfl
    rcases hP.st.cases with⟨s1,s2,s3,s4,s5⟩ |⟨s1,s2,s3,t,t1,t2,t3⟩ |s
    ·refine .inl ⟨s1,by rw[I1];exact s2,by rw[I1];exact s3,s4,fun t ht=>?_⟩
     have zJ:(bQ o++more)[o.aJ.toNat]?=some t:=ht
     have yy:aX o=o.aJ:=by unfold aX;rw[if_neg (by omega)]
     rw[We (by omega),show o.aJ.toNat-(bQ o).length=0 by omega]at zJ
     cases more with
     |nil=>simp at zJ
     |cons x xs=>
      obtain rfl:x=t:=by simpa using zJ
      have:=hc.2.2.1
      omega
    ·have yy:aX o=o.aJ+1:=by unfold aX;rw[if_pos s1]
     refine .inr (.inl ⟨s1,s2,s3,t,?_,t2,t3⟩)
     show(bQ o++more)[o.aJ.toNat]?=some t
     rw[CC _ (by omega)];exact t1
    ·exact absurd s.1 hs
  show(bW w.aa (eT o (bQ o++more)) w.now).getD false=true
  rw[(uh h.fit.ey hn (o:=eT o (bQ o++more)) ⟨g0,by simp only[eT,V2];omega⟩ (by simp only[eT,V2];omega) MR w.now).2 hS];rfl
 ·have hd:((eT o (bQ o++more)).aE.drop (aX (eT o (bQ o++more))).toNat)=more:=by
   show(bQ o++more).drop (aX o).toNat=more
   rw[←k2,List.drop_left]
  rw[hd];exact Zdh
theorem vC{t:au}(ht:t∈o.aE):(⟨((i+1:Nat):Int),t,o.ab⟩:ao)∈w.aq:=by
 obtain⟨j,hj,rfl⟩:=Wf ht
 have:=cJ.1 (js h ho).ok.aE j _ (VT hj)
 unfold uj at this
 simp only[VZ]at this
 have:=this.1.2
 unfold gE at this
 obtain⟨x,h1,h2⟩:=W3.1 this
 rw[←of_decide_eq_true h2];exact h1
theorem E8{t:au}(ht:t∈bQ o):(⟨((i+1:Nat):Int),t,o.ab⟩:ao)∈fQ w i o:=by
 have hP:=js h ho
 have hn:=(cW h.kH).1
 have hnd:=sZ h.fit.ey hn hP.chain
 rw[sK h ho]at hnd
 have hw:t∈o.aE:=by rw[sK h ho];exact Xd _ ht
 exact Fb.2 ⟨vC h ho hw,fun hx=>(Yf.1 hnd).2.2 t ht t hx.2 rfl⟩
theorem RM:(fQ w i o).length+(kK o).length=w.aq.length:=by
 have hP:=js h ho
 have hn:=(cW h.kH).1
 have hnd:=sZ h.fit.ey hn hP.chain
 rw[sK h ho]at hnd
 exact N8 h.kH (Yf.1 hnd).2.1 fun t ht=>vC h ho (by rw[sK h ho];exact XB _ ht)
theorem Jh{more:List au}(hb:bJ w.aa bs=true)(hl:bs.length=(fQ w i o).length+more.length)(uC:∀b∈fQ w i o,b∈bs)
 (hO:vH w.aa bs w.ae w.now i (eT o (bQ o++more))=true) (hm:more.length≤20):tB (vF w i o (bQ o++more) bs) (fun j=>if j=i then w.ae else c j):=by
 have hlen:=ue h ho
 obtain⟨k0,k1,k2,k3⟩:=kB h ho
 have uk:=(cW hb).2
 have x5:=(VU.1 ho).1
 have K7:(bQ o).length+(kK o).length=o.aE.length:=by
  have:=congrArg List.length (sK h ho)
  rw[V2]at this;omega
 refine⟨⟨h.fit.ey,?_,?_,h.fit.ae,h.fit.aH,h.fit.skip,fun x hx=>?_⟩,hb,h.now,?_,fun j x hx=>?_,?_,fun j=>?_⟩
 ·simp only[vF,WL];exact h.fit.ah
 ·simp only[vF];omega
 ·rcases List.mem_or_eq_of_mem_set hx with hx|rfl
  ·exact h.fit.aE x hx
  ·simp only[eT,V2];omega
 ·simp only[vF,WL];exact h.GG
 ·have rQ:(w.ah.set i (eT o (bQ o++more)))[j]?=some x:=hx
  show vH w.aa bs (if j=i then w.ae else c j) w.now j x=true
  by_cases wz:j=i
  ·subst wz
   rw[Wl x5]at rQ
   obtain rfl:=VV rQ
   rw[if_pos rfl];exact hO
  ·rw[if_neg wz]
   rw[Wt (fun e=>wz e.symm)]at rQ
   have hv:=h.ord j x rQ
   unfold vH iV at hv⊢
   simp only[VZ,Wa,decide_eq_true_iff,decide_eq_false_iff_not]at hv⊢
   obtain⟨⟨⟨⟨⟨⟨⟨⟨⟨⟨⟨h1,h2⟩,h3⟩,h4⟩,h5⟩,h6⟩,h7⟩,h8⟩,h9⟩,xZ⟩,Cz⟩,Tb⟩:=hv
   refine⟨⟨⟨⟨⟨⟨⟨⟨⟨⟨⟨h1,h2⟩,h3⟩,h4⟩,h5⟩,h6⟩,h7⟩,h8⟩,?_⟩,xZ⟩,Cz⟩,Tb⟩
   refine cJ.2 fun a t ha=>?_
   have:=cJ.1 h9 a t ha
   unfold uj at this⊢
   simp only[VZ]at this⊢
   refine⟨⟨this.1.1,?_⟩,this.2⟩
   have D6:=this.1.2
   unfold gE at D6⊢
   obtain⟨y,y1,y2⟩:=W3.1 D6
   obtain rfl:=of_decide_eq_true y2
   exact W3.2 ⟨_,uC _ (Fb.2 ⟨y1,fun e=>wz (by have:=e.1;simp only at this;omega)⟩),y2⟩
 ·have:=Ny (fun o:az=>o.aE.length) (eT o (bQ o++more)) ho
  have e:(eT o (bQ o++more)).aE.length=(bQ o).length+more.length:=V2
  simp only[e]at this
  have hs:=h.sum
  have DV:=RM h ho
  show((w.ah.set i (eT o (bQ o++more))).map fun o=>o.aE.length).sum=bs.length
  omega
 ·show(if j=i then w.ae else c j).length≤1048576
  split
  ·exact h.fit.ae
  ·exact h.cl j
theorem LW(hs:¬o.state=3)(iw:¬fx w.aa o=o.aV):∃w',eO w ((i+1:Nat):Int)=some w'∧um w i o w'∧tB w' (fun j=>if j=i then w.ae else c j):=by
 have hP:=js h ho
 have hn:=(cW h.kH).1
 have hlen:=ue h ho
 have x5:=(VU.1 ho).1
 have hol:=h.GG
 obtain⟨w',e,hR⟩:=Vm h.fit hn h.kH h.now (by omega) ho hP.ok.aJ (fun h2=>by
  rcases hP.ok.cases with c1|c1|c1
  ·have:=c1.1;omega
  ·exact c1.2
  ·have:=c1.1;omega) hP.ok.bf (by omega)
 refine⟨w',e,hR,?_⟩
 rcases hR with⟨_,rfl⟩ |⟨aE,bs,hN,rfl⟩
 ·have hO:=Ff h ho (more:=[]) (bs:=fQ w i o) hs iw (fun t ht=>?_) (by simp) trivial (by simp) (.inl rfl) rfl
  ·have:=Jh h ho (more:=[]) (bs:=fQ w i o) (zv h.fit.ey h.kH (tJ _ _ _)) (by simp) (fun b hb=>hb) hO (by simp)
   rw[Xc]at this
   exact this
  ·unfold gE
   exact W3.2 ⟨_,E8 h ho ht,decide_eq_true rfl⟩
 ·obtain⟨a1,a2,a3⟩:=Gc h ho
  have Bb:(if 0 > atR w.aa w.now o then 0 else atR w.aa w.now o)=atR w.aa w.now o:=if_neg (by omega)
  have zl:=hN.Kj.chain
  rw[Bb]at zl
  have xC:=hN.perm.length_eq
  have xb:(ff ((i+1:Nat):Int) o.ab aE).length=aE.length:=by unfold ff;rw[Wg]
  rw[V2,xb]at xC
  have hO:=Ff h ho (more:=aE) (bs:=bs) hs iw (fun t ht=>?_) (fun t ht=>?_) zl hN.Kj.len (.inr ⟨hN.Kj.nodup,hN.Kj.last⟩) ?_
  ·exact Jh h ho hN.kH xC (fun b hb=>hN.perm.mem_iff.2 (Xd _ hb)) hO hN.Kj.len
  ·unfold gE
   exact W3.2 ⟨_,hN.perm.mem_iff.2 (Xd _ (E8 h ho ht)),decide_eq_true rfl⟩
  ·unfold gE
   refine W3.2 ⟨⟨((i+1:Nat):Int),t,o.ab⟩,hN.perm.mem_iff.2 (XB _ ?_),decide_eq_true rfl⟩
   unfold ff;exact List.mem_map_of_mem ht
  ·refine XN.2 fun t ht=>?_
   have:=(hN.Kj.found t ht).1
   rw[fP,fC h.fit.ae]at this
   have:=VV this
   show ¬ct w.ae t=true
   unfold ct
   rw[this];simp
end
/-! The aq are ZfS of the ways. -/
def zq:Nat→List az→List ao
 |_,[]=>[]
 |i,o::os=>ff ((i+1:Nat):Int) o.ab o.aE++zq (i+1) os
theorem H5:∀(os:List az) (i:Nat),(zq i os).length=(os.map fun o=>o.aE.length).sum
 | [],_=>rfl
 |o::os,i=>by
  unfold zq ff
  rw[V2,Wg,H5 os,Wx,WT]
theorem yc{b:ao}:∀{os:List az} {i:Nat},b∈zq i os↔∃(j:Nat) (o:az) (t:au),os[j]?=some o∧t∈o.aE∧b=⟨((i+j+1:Nat):Int),t,o.ab⟩
 | [],i=>by simp[zq]
 |o::os,i=>by
  unfold zq ff
  rw[WC,yc (os:=os) (i:=i+1),WS]
  constructor
  ·rintro(⟨t,h1,h2⟩ |⟨j,o',t,h1,h2,h3⟩)
   ·exact⟨0,o,t,rfl,h1,h2.symm⟩
   ·exact⟨j+1,o',t,by simpa using h1,h2,by rw[h3,show i+1+j+1=i+(j+1)+1 by omega]⟩
  ·rintro⟨j,o',t,h1,h2,h3⟩
   cases j with
   |zero=>
    obtain rfl:o=o':=by simpa using h1
    exact .inl ⟨t,h2,h3.symm⟩
   |succ j=>exact .inr ⟨j,o',t,by simpa using h1,h2,by rw[h3,show i+1+j+1=i+(j+1)+1 by omega]⟩
theorem BS:∀{os:List az} {i:Nat},(∀o∈os,o.aE.Nodup)→(zq i os).Nodup
 | [],i,_=>List.nodup_nil
 |o::os,i,h=>by
  unfold zq
  refine Yf.2 ⟨?_,BS fun x hx=>h x (by simp[hx]),fun a ha b hb e=>?_⟩
  ·unfold ff XE
   rw[Xf]
   exact(h o (by simp)).imp fun {a b} iw e=>iw (by simpa using e)
  ·obtain⟨j,o',t,_,_,h3⟩:=yc.1 hb
   unfold ff at ha
   obtain⟨t',_,rfl⟩:=WS.1 ha
   rw[h3]at e
   have:=congrArg ao.bk e
   simp only at this
   omega
theorem B8{w:av}{c:Nat→List au}(h:tB w c){b:ao}(hb:b∈w.aq):∃(j:Nat) (o:az) (t:au),w.ah[j]?=some o∧t∈o.aE∧b=⟨((j+1:Nat):Int),t,o.ab⟩:=by
 have hn:=(cW h.kH).1
 have hnd:(zq 0 w.ah).Nodup:=BS fun o ho=>by
  obtain⟨i,hi,rfl⟩:=Wf ho
  exact sZ h.fit.ey hn (js h (VT hi)).chain
 have tS:∀x∈zq 0 w.ah,x∈w.aq:=fun x hx=>by
  obtain⟨j,o,t,h1,h2,rfl⟩:=yc.1 hx
  rw[Wb]
  exact vC h h1 h2
 have hlen:(zq 0 w.ah).length=w.aq.length:=by rw[H5,h.sum]
 have uC:b∈zq 0 w.ah:=Classical.byContradiction fun hx=>by
  have:=qT (xs:=b::zq 0 w.ah) (ys:=w.aq) (Xr.2 ⟨hx,hnd⟩) fun x hm=>by
   rcases V4.1 hm with rfl|hm
   ·exact hb
   ·exact tS x hm
  simp only[VX]at this
  omega
 obtain⟨j,o,t,h1,h2,h3⟩:=yc.1 uC
 rw[Wb]at h3
 exact⟨j,o,t,h1,h2,h3⟩
theorem LZ{w:av}{c:Nat→List au}(h:tB w c){i:Nat}{o:az}(ho:w.ah[i]?=some o)(hr:¬kK o=[]):¬o.state=3∧¬fx w.aa o=o.aV:=by
 have hP:=js h ho
 obtain⟨k0,k1,k2,k3⟩:=kB h ho
 have bF:aX o<o.aE.length:=by
  rcases Int.lt_or_le (aX o) o.aE.length with hx|hx
  ·exact hx
  ·exact absurd (XU (by omega)) hr
 have hs:¬o.state=3:=fun hs=>by
  rcases hP.ok.cases with⟨c1,_⟩ |⟨c1,_⟩ |⟨c1,c2,_⟩
  ·omega
  ·omega
  ·have:aX o=o.aJ:=by unfold aX;rw[if_neg (by omega)]
   omega
 refine⟨hs,fun he=>?_⟩
 rw[←zz h ho hs]at he
 by_cases h0:0<aX o
 ·have Th:(aX o).toNat-1<o.aE.length:=by omega
  have nn:(bQ o).getLast?=some o.aE[(aX o).toNat-1]:=by
   unfold bQ
   rw[getLast_take (by omega) (by omega)]
   exact VT Th
  rw[tL nn]at he
  have:=cJ.1 hP.ok.aE _ _ (VT Th)
  unfold uj at this
  simp only[VZ,Wa,Xx,decide_eq_true_iff,decide_eq_false_iff_not,Wb]at this
  exact this.2 he (by omega)
 ·have:bQ o=[]:=by unfold bQ;rw[show(aX o).toNat=0 by omega];rfl
  rw[this]at he
  exact hP.ok.ZaW he
structure qe(w w':av):Prop where
 aa:w'.aa=w.aa
 now:w'.now=w.now
 ae:w'.ae=w.ae
 aH:w'.aH=w.aH
 skip:w'.skip=w.skip
 bd:w'.bd=w.bd
 len:w'.ah.length=w.ah.length
theorem qe.refl(w:av):qe w w:=⟨rfl,rfl,rfl,rfl,rfl,rfl,rfl⟩
theorem qe.trans{a b c:av}(h:qe a b)(k:qe b c):qe a c:=⟨k.1.trans h.1,k.2.trans h.2,k.3.trans h.3,k.4.trans h.4,k.5.trans h.5,k.6.trans h.6,k.7.trans h.7⟩
theorem qe.new(w:av)(i:Nat)(o:az)(ts:List au)(bs:List ao):qe w (vF w i o ts bs):=⟨rfl,rfl,rfl,rfl,rfl,rfl,by simp only[vF,WL]⟩
theorem NJ{n:aj}(hf:cI n){l:List ao}{ae:List au}{ab aO:Int}{aE:List au}(h:Qd n l ae ab ar aV aO aE):aE.length≤(ak n).length-1:=by
 have:=qT (xs:=ar::aE.map (bU n)) (ys:=ak n) h.nodup fun p hp=>by
  rcases V4.1 hp with rfl|hp
  ·exact Zbq h.hC.2.1
  ·obtain⟨t,ht,rfl⟩:=WS.1 hp
   obtain⟨y,hy,MS⟩:=dG hf (mX h.chain t ht)
   have f2:bU n t=y.aV:=by unfold bU;rw[hy];rfl
   rw[f2]
   exact(pD MS).2
 simp only[VX,Wg]at this
 omega
def qW(n:aj)(o o':az):Prop:=o'=o∨∃more,more.length≤(ak n).length-1∧o'=eT o (bQ o++more)
theorem JT{w w':av}(hf:cI w.aa){i:Nat}{o:az}(hR:um w i o w')(ho:w.ah[i]?=some o):qe w w'∧(∃o',w'.ah[i]?=some o'∧qW w.aa o o')∧∀j,¬j=i→w'.ah[j]?=w.ah[j]?:=by
 have x5:=(VU.1 ho).1
 rcases hR with⟨_,rfl⟩ |⟨aE,bs,hN,rfl⟩
 ·refine⟨qe.new _ _ _ _ _,⟨eT o (bQ o),?_,.inr ⟨[],by simp,by rw[Xc]⟩⟩,fun j hj=>?_⟩
  ·show(w.ah.set i _)[i]?=_
   rw[Wl x5]
  ·show(w.ah.set i _)[j]?=_
   rw[Wt (fun e=>hj e.symm)]
 ·refine⟨qe.new _ _ _ _ _,⟨_,?_,.inr ⟨aE,NJ hf hN.Kj,rfl⟩⟩,fun j hj=>?_⟩
  ·show(w.ah.set i _)[i]?=_
   rw[Wl x5]
  ·show(w.ah.set i _)[j]?=_
   rw[Wt (fun e=>hj e.symm)]
def mK(w:av):Int×Int×Int×(List bM)×(List Int)×(List az)×(List ao)×(List au)×(List br)×(List Int):=(w.aa.change,w.now,w.bd,w.aa.ay,w.aa.off,w.ah,w.aq,w.ae,w.aH,w.skip)
theorem jT{α β:Type}{x:Option α}{f:α→Option β}{r:β}:x.bind f=some r↔∃a,x=some a∧f a=some r:=by
 cases x<;>simp
theorem KO{b:Bool}{x y:α}{P:α→Prop}(h:b=true→P x)(k:b=false→P y):P (cond b x y):=by
 cases b with
 |true=>exact h rfl
 |false=>exact k rfl
theorem Pq{n:aj}{l:List ao}{ae:List au}{aO ab:Int}{x:List au}(h:bE n l ae ar aV aO ab=some (x,false)):x=[]:=by
 unfold bE at h
 obtain⟨y1,_,h⟩:=jT.1 h
 obtain⟨y2,_,h⟩:=jT.1 h
 obtain⟨y3,_,h⟩:=jT.1 h
 obtain⟨y4,_,h⟩:=jT.1 h
 revert h
 have nil:(some (([]:List au),false))=some (x,false)→x=[]:=fun e=>by
  have:=congrArg XR (VV e);exact this.symm
 refine KO (P:=fun z=>z=some (x,false)→x=[]) (fun _=>nil) fun _=>KO (P:=fun z=>z=some (x,false)→x=[]) (fun _=>nil) fun _ h=>?_
 obtain⟨y5,_,h⟩:=jT.1 h
 revert h
 refine KO (P:=fun z=>z=some (x,false)→x=[]) (fun _=>nil) fun _ h=>?_
 obtain⟨y6,_,h⟩:=jT.1 h
 obtain⟨o0,_,h⟩:=jT.1 h
 obtain⟨o1,_,h⟩:=jT.1 h
 have:=congrArg X3 (VV h)
 cases this
section
variable {w:av} {c:Nat→List au} (h:tB w c) {i:Nat} {o:az} (ho:w.ah[i]?=some o)
include h ho
theorem GW{a b:Nat}{s t:au}(Ba:a<b)(ha:o.aE[a]?=some s)(hb:o.aE[b]?=some t):cS w.aa s≤cd w.aa t∧cd w.aa s<cS w.aa s:=by
 have hn:=(cW h.kH).1
 have hO:=js h ho
 obtain⟨c0,c1⟩:=gm hn
 have hs:=hO.ok.bf s (VW ha)
 obtain⟨t1,t2,t3,t4,t5⟩:=cH h.fit.ey hn hs
 refine⟨?_,by omega⟩
 have Uj:=(VU.1 ha).1
 have uk:=(VU.1 hb).1
 have h1:o.aE[a+1]?=some o.aE[a+1]:=VT (by omega)
 have hn1:=((Cc hO.chain ha).2 _ h1).1
 by_cases uY:b=a+1
 ·subst uY
  rw[hb]at h1
  rw[←VV h1]at hn1
  omega
 ·have bF:=Ce h.fit.ey hn hO.chain
  have:=WG.1 bF (a+1) b (by omega) uk (by omega)
  rw[(VU.1 hb).2]at this
  omega
theorem Gy{t:au}(ht:t∈bQ o):cd w.aa t≤w.now:=by
 have hO:=js h ho
 obtain⟨k0,k1,k2,k3⟩:=kB h ho
 obtain⟨g0,g1⟩:=hO.ok.aJ
 obtain⟨a,ha,hae⟩:=Wf ht
 have PM:o.aE[a]?=some t:=by rw[←Jb h ho ha,←hae];exact VT ha
 have El:0<o.aJ→a≤(o.aJ-1).toNat→cd w.aa t≤w.now:=fun hg hle=>by
  have sE:(o.aJ-1).toNat<o.aE.length:=by omega
  have hp:=hO.st.El _ hg (VT sE)
  by_cases CA:a=(o.aJ-1).toNat
  ·subst CA
   rw[VT sE]at PM
   rw[VV PM]at hp
   have hn:=(cW h.kH).1
   obtain⟨t1,t2,t3,t4,t5⟩:=cH h.fit.ey hn (hO.ok.bf t (by rw[←VV PM];exact Wm sE))
   omega
  ·have:=GW h ho (a:=a) (b:=(o.aJ-1).toNat) (by omega) PM (VT sE)
   have hn:=(cW h.kH).1
   obtain⟨t1,t2,t3,t4,t5⟩:=cH h.fit.ey hn (hO.ok.bf _ (Wm sE))
   omega
 rcases hO.st.cases with⟨s1,s2,s3,s4,s5⟩ |⟨s1,s2,s3,t2,u1,u2,u3⟩ |⟨s1,s2,s3,s4,s5,s6⟩
 ·have yy:aX o=o.aJ:=by unfold aX;rw[if_neg (by omega)]
  exact El (by omega) (by omega)
 ·have yy:aX o=o.aJ+1:=by unfold aX;rw[if_pos s1]
  by_cases CA:a=o.aJ.toNat
  ·subst CA
   rw[u1]at PM
   rw[VV PM]at u2
   exact u2
  ·exact El (by omega) (by omega)
 ·have yy:aX o=o.aJ:=by unfold aX;rw[if_neg (by omega)]
  exact El (by omega) (by omega)
theorem LY{t:au}(ht:t∈kK o):w.now<cd w.aa t:=by
 have hO:=js h ho
 obtain⟨k0,k1,k2,k3⟩:=kB h ho
 obtain⟨g0,g1⟩:=hO.ok.aJ
 obtain⟨a,ha,hae⟩:=Wf ht
 have PM:o.aE[(aX o).toNat+a]?=some t:=by
  have:=VT ha
  rw[hae]at this
  unfold kK at this
  rw[List.getElem?_drop]at this
  exact this
 have Uj:=(VU.1 PM).1
 rcases hO.st.cases with⟨s1,s2,s3,s4,s5⟩ |⟨s1,s2,s3,t2,u1,u2,u3⟩ |⟨s1,s2,s3,s4,s5,s6⟩
 ·have yy:aX o=o.aJ:=by unfold aX;rw[if_neg (by omega)]
  have sE:o.aJ.toNat<o.aE.length:=by omega
  have h5:=s5 _ (VT sE)
  by_cases h0:a=0
  ·subst h0
   rw[yy,Nat.add_zero,VT sE]at PM
   rw[←VV PM];exact h5
  ·have:=GW h ho (a:=o.aJ.toNat) (by omega) (VT sE) PM
   omega
 ·have yy:aX o=o.aJ+1:=by unfold aX;rw[if_pos s1]
  have:=GW h ho (a:=o.aJ.toNat) (by omega) u1 PM
  omega
 ·have yy:aX o=o.aJ:=by unfold aX;rw[if_neg (by omega)]
  omega
theorem QV:kZ w.aa w.aq ((i+1:Nat):Int) (w.now+1)=some (fQ w i o):=by
 have hn:=(cW h.kH).1
 have uk:=(cW h.kH).2
 have hO:=js h ho
 unfold kZ
 rw[iv h.fit.ey h.fit.aq,h.kH,VS]
 have e:aD (iP w.aa w.aq ((i+1:Nat):Int) (w.now+1) true) NN (0,[])=some (fQ w i o):=by
  refine lp (body:=iP w.aa w.aq ((i+1:Nat):Int) (w.now+1) true) (fun j:Nat=>((j:Int),nY ((i+1:Nat):Int) (kK o) (w.aq.take j))) (n:=w.aq.length) (fun j hj=>?_) ?_ NN (by unfold NN;omega)
  ·have hg:aC w.aq (j:Int)=some w.aq[j]:=by rw[aR];exact VT hj
   have hw:aL ((j:Int)+1)=((j+1:Nat):Int):=bI hj (by omega)
   have EV:(nY ((i+1:Nat):Int) (kK o) (w.aq.take j)).length≤1000:=Wq (List.length_filter_le _ _) (by rw[V8];omega)
   have ha:cL (bo ((nY ((i+1:Nat):Int) (kK o) (w.aq.take j)).length+([w.aq[j]]:List ao).length) 32)=some ():=eR (by simp only[VX,VY];omega) (by omega)
   have hs:nY ((i+1:Nat):Int) (kK o) (w.aq.take (j+1))=nY ((i+1:Nat):Int) (kK o) (w.aq.take j)++(if(decide (w.aq[j].bk=((i+1:Nat):Int))&&ct (kK o) w.aq[j].bf)=true then []else [w.aq[j]]):=by
    unfold nY
    rw[Xe hj,List.filter_append]
    simp only[List.filter_cons,List.filter_nil]
    cases decide (w.aq[j].bk=((i+1:Nat):Int))&&ct (kK o) w.aq[j].bf<;>rfl
   obtain⟨t1,t2,t3,t4,t5⟩:=cH h.fit.ey hn (KL h.fit.ey h.kH (Wm hj))
   unfold iP
   simp only[decide_eq_true (show(j:Int)<w.aq.length by omega),cond_true,cond_false,V0,hg,VS,hw,ha,t1]
   rw[hs]
   by_cases hth:w.aq[j].bk=((i+1:Nat):Int)
   ·rw[decide_eq_true hth]
    simp only[V0,cond_false,WH]
    obtain⟨j',o',t',q1,q2,q3⟩:=B8 h (Wm hj)
    have hjj:j'=i:=by
     have:=congrArg ao.bk q3
     rw[hth]at this
     simp only at this
     omega
    subst hjj
    rw[ho]at q1
    obtain rfl:=VV q1
    have MR:w.aq[j].bf=t':=congrArg ao.bf q3
    rw[MR]
    rw[sK h ho]at q2
    cases hc:ct (kK o) t' with
    |true=>
     have:=LY h ho (jg.1 hc)
     rw[decide_eq_false (by omega),if_pos rfl,Xc];rfl
    |false=>
     rcases WC.1 q2 with q2|q2
     ·have:=Gy h ho q2
      rw[decide_eq_true (by omega),if_neg (by simp)];rfl
     ·rw[jg.2 q2]at hc;cases hc
   ·rw[decide_eq_false hth];rfl
  ·unfold iP fQ
   simp[Xo]
 rw[e];rfl
theorem Tv(hs:¬o.state=3):∃w',eE w (i:Int)=some w'∧um w i o w':=by
 have hn:=(cW h.kH).1
 have uk:=(cW h.kH).2
 have hO:=js h ho
 have hlen:=ue h ho
 obtain⟨k0,k1,k2,k3⟩:=kB h ho
 obtain⟨g0,g1⟩:=hO.ok.aJ
 obtain⟨c0,c1⟩:=gm hn
 have x5:=(VU.1 ho).1
 have hol:=h.GG
 have CF:=h.now
 have MQ:aC w.ah (i:Int)=some o:=by rw[aR];exact ho
 have EU:eY o=some (aX o):=(s7 hO.ok.aJ (by omega)).1
 have tS:cD o.aE 0 (aX o)=bQ o:=by unfold cD bQ;simp
 have zo:cL (gA 0 (aX o) o.aE.length)=some ():=pR (by unfold gA;exact decide_eq_true ⟨Wv _,k0,k1⟩)
 have wA:aL (w.now+1)=w.now+1:=aQ (by omega)
 have wB:aL ((i:Int)+1)=((i+1:Nat):Int):=by rw[aQ (by omega)];omega
 have DV:(fQ w i o).length≤120:=Wq (tJ _ _ _).length_le uk
 have sn:=zv h.fit.ey h.kH (tJ ((i+1:Nat):Int) (kK o) w.aq)
 have hkl:(bQ o).length≤120:=by rw[k2];omega
 have I1:eQ w.aa o=some (fx w.aa o):=by
  unfold eQ fx
  rcases hO.st.cases with⟨s1,_⟩ |⟨s1,s2,s3,t2,u1,u2,u3⟩ |⟨s1,_⟩
  ·rw[decide_eq_false (by omega),if_neg (by omega)];rfl
  ·have hg:aC o.aE o.aJ=some t2:=by unfold aC;rw[if_pos g0];exact u1
   obtain⟨y,hy,_⟩:=dG h.fit.ey (hO.ok.bf t2 (VW u1))
   rw[decide_eq_true s1,if_pos s1,cond_true,hg,u1,VS,hy,VS,Wr,Ws]
   unfold bU
   rw[hy];rfl
  ·exact absurd s1 hs
 have ha0:cL (bo ((([]:List au)).length+(bQ o).length) 16)=some ():=eR (by simp only[VY];omega) (by omega)
 obtain⟨⟨aE,b⟩,_,e2⟩:=nF h.fit.ey (l:=fQ w i o) (by omega) h.fit.ae (fx w.aa o) o.aV (atR w.aa w.now o) o.ab
 have tail:∀a,a=atR w.aa w.now o→∃w',((bE w.aa (fQ w i o) w.ae (fx w.aa o) o.aV a o.ab).bind fun y8=>
  (ck w.aa (fQ w i o) ((i+1:Nat):Int) o.ab y8.1).bind fun y9=>
  cond y9.2
  ((cL (bo ((([]++bQ o):List au).length+(y8.1:List au).length) 16)).bind fun _=>
  some (vF w i o (bQ o++y8.1) y9.1))
  (some (vF w i o (bQ o) (fQ w i o))))=some w'∧um w i o w':=by
  rintro a rfl
  rw[e2,VS]
  cases b with
  |false=>
   obtain rfl:=Pq e2
   have vw:=sj h.fit.ey (show(fQ w i o).length≤1048000 by omega) ((i+1:Nat):Int) o.ab (aE:=[]) (d:=fQ w i o) (by simp[ff]) (Ig sn)
   rw[if_pos ⟨sn,by simp,sn⟩]at vw
   have ha:cL (bo ((([]++bQ o):List au).length+([]:List au).length) 16)=some ():=eR (by simp only[WM,VY];omega) (by omega)
   exact⟨_,by rw[vw];simp only[VS,cond_true,ha,Xc],.inl ⟨.inl ⟨[],e2⟩,rfl⟩⟩
  |true=>
  have hR:=nI h.fit.ey (show(fQ w i o).length≤1048576 by omega) h.fit.ae e2
  have K7:=hR.len
  have xb:(ff ((i+1:Nat):Int) o.ab aE).length=aE.length:=by unfold ff;rw[Wg]
  obtain⟨d,d1,d2⟩:=DC (fQ w i o++ff ((i+1:Nat):Int) o.ab aE) (by rw[V2,xb];omega)
  have vw:=sj h.fit.ey (show(fQ w i o).length≤1048000 by omega) ((i+1:Nat):Int) o.ab d1 d2
  by_cases Re:bJ w.aa d=true
  ·rw[if_pos ⟨sn,K7,Re⟩]at vw
   have ha:cL (bo ((([]++bQ o):List au).length+aE.length) 16)=some ():=eR (by simp only[WM];omega) (by omega)
   exact⟨_,by rw[vw];simp only[VS,cond_true,ha],.inr ⟨aE,d,⟨e2,vw,hR,d1,Re⟩,rfl⟩⟩
  ·rw[if_neg (fun hx=>Re hx.2.2)]at vw
   exact⟨_,by rw[vw];rfl,.inl ⟨.inr ⟨aE,e2,vw⟩,rfl⟩⟩
 unfold eE
 rw[MQ,VS,EU,VS]
 by_cases h0:0<aX o
 ·have Th:(aX o).toNat-1<o.aE.length:=by omega
  have nn:(bQ o).getLast?=some o.aE[(aX o).toNat-1]:=by
   unfold bQ
   rw[getLast_take (by omega) (by omega)]
   exact VT Th
  have hgk:aC o.aE (aL (aX o-1))=some o.aE[(aX o).toNat-1]:=by
   rw[aQ (by omega)]
   unfold aC
   rw[if_pos (by omega),show(aX o-1).toNat=(aX o).toNat-1 by omega]
   exact VT Th
  obtain⟨t1,t2,t3,t4,t5⟩:=cH h.fit.ey hn (hO.ok.bf _ (Wm Th))
  have hwe:aL (cS w.aa o.aE[(aX o).toNat-1]+w.aa.change)=cS w.aa o.aE[(aX o).toNat-1]+w.aa.change:=aQ (by omega)
  have Uv:fv (w.now+1) (cS w.aa o.aE[(aX o).toNat-1]+w.aa.change)=some (atR w.aa w.now o):=by
   unfold fv atR
   rw[nn]
   simp only
   by_cases hm:w.now+1<cS w.aa o.aE[(aX o).toNat-1]+w.aa.change
   ·rw[decide_eq_true hm,if_pos hm];rfl
   ·rw[decide_eq_false hm,if_neg hm];rfl
  rw[decide_eq_true h0,cond_true,hgk]
  simp only[VS,t2,wA,hwe,Uv,wB,QV h ho,I1,zo,tS,ha0,MQ]
  obtain⟨w',q1,q2⟩:=tail _ rfl
  refine⟨w',?_,q2⟩
  rw[←q1]
  simp only[vF,eT,WY,WM]
 ·have nn:(bQ o).getLast?=none:=by
   unfold bQ
   rw[show(aX o).toNat=0 by omega];rfl
  have Rc:w.now+1=atR w.aa w.now o:=by unfold atR;rw[nn]
  rw[decide_eq_false h0,cond_false]
  simp only[VS,wA,wB,QV h ho,I1,zo,tS,ha0,MQ]
  obtain⟨w',q1,q2⟩:=tail _ Rc
  refine⟨w',?_,q2⟩
  rw[←q1]
  simp only[vF,eT,WY,WM]
omit h ho in
theorem Pn{a b:av}(h1:um w i o a)(h2:um w i o b):a=b:=by
 have no:∀{aE bs},P8 w i o→P7 w i o aE bs→False:=fun {aE bs} hx hy=>by
  rcases hx with⟨x,hx⟩ |⟨x,hx,hb⟩
  ·rw[hy.fy]at hx
   have:=congrArg X3 (VV hx);cases this
  ·rw[hy.fy]at hx
   have hxx:aE=x:=congrArg XR (VV hx)
   rw[←hxx,hy.book]at hb
   have:=congrArg X3 (VV hb);cases this
 rcases h1 with⟨n1,rfl⟩ |⟨w1,b1,n1,rfl⟩<;>rcases h2 with⟨n2,rfl⟩ |⟨w2,b2,n2,rfl⟩
 ·rfl
 ·exact(no n1 n2).elim
 ·exact(no n2 n1).elim
 ·have e:=n2.fy
  rw[n1.fy]at e
  have hw:w1=w2:=congrArg XR (VV e)
  subst hw
  have e2:=n2.book
  rw[n1.book]at e2
  have hb:b1=b2:=congrArg XR (VV e2)
  subst hb
  rfl
theorem xn(hs:¬o.state=3)(iw:¬fx w.aa o=o.aV):∃w',eE w (i:Int)=some w'∧eO w ((i+1:Nat):Int)=some w'∧um w i o w'∧tB w' (fun j=>if j=i then w.ae else c j):=by
 obtain⟨a,a1,a2,a3⟩:=LW h ho hs iw
 obtain⟨b,b1,b2⟩:=Tv h ho hs
 obtain rfl:=Pn b2 a2
 exact⟨b,b1,a1,a2,a3⟩
end
section
variable {n:aj} (hf:cI n) (hn:aU n=some true)
include hf hn
theorem ZbA{bx z:Int}{y:bM}(hy:aC n.ay bx=some y):jd n bx z=cz n [] [] bx z 0:=by
 have PS:=(tj hf hn y (rn hy)).fy
 have hw:aL (y.fy-0)=y.fy:=by rw[aQ (by omega)];omega
 have hb:ka n bx z=cf n [] [] bx z 0:=by
  funext s
  unfold ka cf
  cases decide (s≤60)with
  |false=>rfl
  |true=>
  cases cx n bx s with
  |none=>rfl
  |some b=>
  cases b with
  |false=>rfl
  |true=>
  simp only[cond_true,VS]
  cases bq n ⟨bx,s⟩with
  |none=>rfl
  |some v=>
  simp only[VS]
  cases decide (z≤v)with
  |false=>rfl
  |true=>
  have hc:df [] (⟨bx,s⟩:au)=some false:=by rw[fP,fC (by simp)];rfl
  simp only[cond_true,hc,VS,Bool.not_false,hy,CU,hw,decide_eq_true PS.1]
 unfold jd cz
 rw[hb]
theorem Vt(gB:List Int)(f:Int):oD n (ak n) gB f=dK n [] [] 0 (ak n) gB f:=by
 have hb:nT n (ak n) gB f=ew n [] [] 0 (ak n) gB f:=by
  funext s
  unfold nT ew
  cases decide (s.1<(n.ay.length:Int))with
  |false=>simp only[cond_false]
  |true=>
  simp only[cond_true]
  cases hy:aC n.ay s.1 with
  |none=>simp only[Option.bind_none]
  |some y=>simp only[VS,ZbA hf hn hy]
 unfold oD dK
 rw[hb]
theorem KI{aO:Int}(Ko:0≤bb (ak n) ar)(Bb:aO≤100000)(hk:k≤(ak n).length):jN n ar aO (k:Int)=some (bP n [] [] 0 (bb (ak n) ar) aO k):=by
 have hp:=JF hf
 obtain⟨r0,e0,_⟩:=zA hf (bb (ak n) ar) aO
 have h0:bP n [] [] 0 (bb (ak n) ar) aO 0=r0:=by unfold bP;rw[e0];rfl
 unfold jN
 rw[(di hf).2]
 simp only[VS,n7 hf,hn,V0,cond_false,decide_eq_false (show ¬bb (ak n) ar<0 by omega),decide_eq_false (show ¬100000<aO by omega),decide_eq_false (show ¬(k:Int)<0 by omega),e0]
 have e:aD (fG n (k:Int) (ak n) (bb (ak n) ar)) NN (0,bP n [] [] 0 (bb (ak n) ar) aO 0)=some (bP n [] [] 0 (bb (ak n) ar) aO k):=by
  refine lp (body:=fG n (k:Int) (ak n) (bb (ak n) ar)) (fun i:Nat=>((i:Int),bP n [] [] 0 (bb (ak n) ar) aO i)) (n:=k) (o:=bP n [] [] 0 (bb (ak n) ar) aO k) (fun i hi=>?_) ?_ NN (by unfold NN;omega)
  ·unfold fG
   rw[decide_eq_true (show(i:Int)<(k:Int)by omega),decide_eq_true (show(i:Int)<((ak n).length:Int)by omega),cond_true,cond_true,Vt hf hn,(si hf (l:=[]) (by simp) (ae:=[]) (by simp) 0 _ aO i).1,VS,aQ (by omega)]
   rfl
  ·unfold fG
   simp
 rw[←h0,e];rfl
theorem KU{aO:Int}(Ko:0≤bb (ak n) ar)(Bb:aO≤100000)(EZ:0≤bb (ak n) aV){e:Int}(he:aC (bP n [] [] 0 (bb (ak n) ar) aO (ak n).length) (bb (ak n) aV)=some e):jv n ar aV aO=some e:=by
 have bF:=(kM (ak n) aV).2
 have uk:=mc hf (l:=[]) (by simp) (ae:=[]) (by simp) 0 (bb (ak n) ar) aO (ak n).length
 unfold jv
 rw[(di hf).2]
 simp only[VS,n7 hf,KI hf hn Ko Bb (V3 _),decide_eq_false (show ¬bb (ak n) aV<0 by omega),decide_eq_false (show ¬(((bP n [] [] 0 (bb (ak n) ar) aO (ak n).length).length:Int)=0)by rw[uk];omega),cond_false,he]
omit hf hn in
theorem G6{ax e aO:Int}(he:jv n ar aV aO=some e)(h0:0≤e)(h1:e≤100000)(hs:1≤ax∧ax≤3):j8 n ax ar aV aO=some (IG e ax):=by
 unfold j8
 rw[he]
 simp only[VS,dt]
 have d1:e.tdiv 1440=e / 1440:=Int.tdiv_eq_ediv_of_nonneg h0
 have d2:e.tmod 1440=e % 1440:=Int.tmod_eq_emod_of_nonneg h0
 have hb:0≤e / 1440∧e / 1440≤69:=by omega
 have E0:IntKind.i64.wrap (e / 1440)=e / 1440:=aQ (by omega)
 have hk:∃k:Int,0≤k∧k≤4∧aL (aL (ax-1)*aL (ax-1))=k∧k=(if ax=1 then 0 else if ax=2 then 1 else 4):=by
  rcases(show ax=1∨ax=2∨ax=3 by omega)with rfl|rfl|rfl
  ·exact⟨0,by omega,by omega,by decide,by simp⟩
  ·exact⟨1,by omega,by omega,by decide,by simp⟩
  ·exact⟨4,by omega,by omega,by decide,by simp⟩
 obtain⟨k,k0,k1,k2,k3⟩:=hk
 rw[d1,d2,E0,decide_eq_true hs.1,decide_eq_true hs.2,decide_eq_false (show ¬e<0 by omega),k2]
 simp only[cond_false,W8,V0]
 unfold IG
 rw[←k3]
 by_cases hd:1080<e % 1440
 ·rw[decide_eq_true hd,if_pos hd,cond_true]
  rw[aQ (n:=e / 1440+1) (by omega),aQ (n:=e / 1440+1+k) (by omega),aQ (n:=(e / 1440+1+k)*1440) (by omega),aQ (by omega)]
 ·rw[decide_eq_false hd,if_neg hd,cond_false]
  rw[aQ (n:=e / 1440+k) (by omega),aQ (n:=(e / 1440+k)*1440) (by omega),aQ (by omega),Int.add_zero]
theorem yX{l:List ao}(hl:l.length≤1048576){ae:List au}(hc:ae.length≤1048576){aO ab ax:Int}(hs:1≤ax∧ax≤3){aE:List au}(h:bE n l ae ar aV aO ab=some (aE,true)):
 ∃d,eV n ax ar aV aO=some d∧j8 n ax ar aV aO=some d∧0≤d∧d≤200000:=by
 obtain⟨d,d1,d2,d3⟩:=JI hf hn hl hc hs h
 have hR:=nI hf hl hc h
 obtain⟨q1,q2,q3,q4⟩:=hR.hC
 have bF:=(kM (ak n) aV).2
 have uk:=mc hf (l:=[]) (by simp) (ae:=[]) (by simp) 0 (bb (ak n) ar) aO (ak n).length
 obtain⟨e,he,_⟩:=kc (xs:=bP n [] [] 0 (bb (ak n) ar) aO (ak n).length) (i:=bb (ak n) aV) ⟨hR.EZ,by rw[uk];exact bF⟩
 have e1:=Cq hf hn q2 q3 hR.EZ he
 have e2:=KU hf hn q2 q3 hR.EZ he
 have gz:0≤e∧e≤100000:=by
  unfold eV at d1
  rw[e1,VS]at d1
  obtain⟨v,hv,h0⟩:∃v,qc (bP n [] [] 0 (bb (ak n) ar) aO (ak n).length) (bb (ak n) aV) v∧v≤100000:=B6 hf hn hl hc h
  obtain⟨v',v1,v2,v3⟩:=hv
  rw[he]at v1
  obtain rfl:=VV v1
  exact⟨v2,by omega⟩
 refine⟨IG e ax,Da e1 gz.1 gz.2 hs,G6 e2 gz.1 gz.2 hs,?_⟩
 have:=QW (ax:=ax) gz.1 gz.2
 omega
end
theorem Ao{w:av}(h:pL w)(ar aV:ByteArray)(ax ab:Int):
 ∃r,fo w ar aV ax ab=some r∧cV w ar aV ax ab=some r∧(r=(w,0,false)∧Me w ar aV ax ab∨∃aE ys dX,Qc w ar aV ax ab r aE ys dX):=by
 have hf:=h.fit
 obtain⟨p1,p2,p3,p4,p5,p6,p7⟩:=h.parts
 obtain⟨r,e,hr⟩:=Qg h ar aV ax ab fun aE hw hs=>by
  obtain⟨d,d1,_,d2,d3⟩:=yX hf.ey h.ey hf.aq hf.ae hs hw
  exact⟨d,d1,d2,d3⟩
 refine⟨r,e,?_,hr⟩
 have wA:aL (w.now+1)=w.now+1:=aQ (by omega)
 have zK:aL ((w.ah.length:Int)+1)=(w.ah.length:Int)+1:=aQ (by omega)
 have start:∀X,(∀(q:Option (av×Int×Bool)),q=some r→True)→X=some r→X=some r:=fun _ _ e=>e
 unfold cV
 rw[wm hf,VS,pQ hf,h.ok,VS,wA,zK]
 simp only[V0,cond_false,dt,VS]
 -- Kk follows where all is Zhp but the aE
 obtain⟨⟨aE,b⟩,e1,e2⟩:=nF hf.ey hf.aq hf.ae ar aV (w.now+1) ab
 have hbt:=Qq hf.ey (show w.aq.length≤1048000 by omega) ((w.ah.length:Int)+1) ab aE
 obtain⟨y6,e6,_⟩:=hbt
 rw[e2]
 simp only[VS]
 rw[e6]
 simp only[VS]
 rcases hr with⟨rfl,hR⟩ |⟨PE,ys,dX,hT⟩
 ·by_cases c1:30≤w.ah.length
  ·rw[decide_eq_true (show(30:Int)≤(w.ah.length:Int)by omega)];rfl
  rw[decide_eq_false (show ¬(30:Int)≤(w.ah.length:Int)by omega),cond_false]
  by_cases c2:ar=aV
  ·rw[decide_eq_true c2];rfl
  rw[decide_eq_false c2,cond_false]
  by_cases c3:1≤ax∧ax≤3
  case neg=>
   have:(decide (1≤ax)&&decide (ax≤3))=false:=by rw[←XX];exact decide_eq_false c3
   rw[this];rfl
  rw[decide_eq_true c3.1,decide_eq_true c3.2]
  by_cases c4:1≤ab∧ab≤30000
  case neg=>
   have:(decide (1≤ab)&&decide (ab≤30000))=false:=by rw[←XX];exact decide_eq_false c4
   rw[this];rfl
  rw[decide_eq_true c4.1,decide_eq_true c4.2]
  simp only[W8,V0,cond_false]
  rcases hR with hx|hx|hx|hx|⟨x,hx⟩ |⟨wy,l,hx,hy⟩
  ·exact absurd hx c1
  ·exact absurd hx c2
  ·exact absurd c3 hx
  ·exact absurd c4 hx
  ·rw[e2]at hx
   have hb:b=false:=congrArg X3 (VV hx)
   rw[hb];rfl
  ·rw[e2]at hx
   have hb:aE=wy:=congrArg XR (VV hx)
   rw[←hb,e6]at hy
   have zk:y6.2=false:=congrArg X3 (VV hy)
   rw[zk]
   cases b<;>rfl
 ·have hrm:=hT.fy
  rw[e2]at hrm
  have hb:b=true:=congrArg X3 (VV hrm)
  have Zfg:aE=PE:=congrArg XR (VV hrm)
  subst Zfg
  subst hb
  have D6:=hT.book
  rw[e6]at D6
  obtain rfl:=VV D6
  have ik:=hT.ok
  obtain⟨k1,k2,_⟩:=ik.parts
  have k2':(w.ah++[mI w ar aV ax ab dX aE]).length≤30:=k2
  rw[V2]at k2'
  simp only[VX,VY]at k2'
  have hv:=pW ik.ok (i:=w.ah.length) (o:=mI w ar aV ax ab dX aE) (by
   show(w.ah++[mI w ar aV ax ab dX aE])[w.ah.length]?=_
   rw[We (V3 _),Nat.sub_self];rfl)
  unfold iV at hv
  simp only[VZ,Wa,decide_eq_true_iff,decide_eq_false_iff_not]at hv
  have c3:1≤ax∧ax≤3:=hv.1.1.1.1.1.1.1.1.2
  have c4:1≤ab∧ab≤30000:=hv.1.1.1.1.1.1.1.2
  obtain⟨d,d1,d2,_⟩:=yX hf.ey h.ey hf.aq hf.ae c3 hT.fy
  have hpr:=hT.prom
  rw[d1]at hpr
  obtain rfl:=VV hpr
  have hR:=nI hf.ey hf.aq hf.ae hT.fy
  have hlen:=hR.len
  have ha:cL (bo (w.ah.length+([mI w ar aV ax ab d aE]:List az).length) 128)=some ():=eR (by simp only[VX,VY];omega) (by omega)
  have hsi:=Hk (w:=⟨w.aa,w.ah++[mI w ar aV ax ab d aE],ys,w.ae,w.now,w.aH,w.skip,w.bd⟩) ⟨by simp only;omega,p4,by simp only;omega⟩ ⟨(w.ah.length:Int)+1,w.now,1,ar,⟨0,0⟩⟩
  rw[decide_eq_false (show ¬(30:Int)≤(w.ah.length:Int)by omega),cond_false,decide_eq_false hT.ne,cond_false,decide_eq_true c3.1,decide_eq_true c3.2,decide_eq_true c4.1,decide_eq_true c4.2]
  simp only[W8,V0,cond_false,d2,VS,A8,bh]
  unfold mI at ha hsi
  rw[ha]
  simp only[VS]
  rw[hsi,hT.res]
  rfl
def gg(t:au)(y1:av)(s0:Int×Int×Int×Int×(List bM)×(List Int)×(List az)×(List ao)×(List au)×(List br)×(List Int)):Option ((Int×Int×Int×Int×(List bM)×(List Int)×(List az)×(List ao)×(List au)×(List br)×(List Int))⊕(Int×Int×Int×(List bM)×(List Int)×(List az)×(List ao)×(List au)×(List br)×(List Int))):=
 cond (decide (s0.1<(y1.ah.length:Int)))
 ((aC s0.2.2.2.2.2.2.1 s0.1).bind fun y6=>
 (gD y6).bind fun y7=>
 (cL (gA y7 (y6.aE.length:Int) y6.aE.length)).bind fun _=>
 (eM (cD y6.aE y7 (y6.aE.length:Int)) t).bind fun y8=>
 cond y8
 ((bh [2,3,4,5,6,7,8,9]).bind fun _=>
 (eO (⟨(⟨s0.2.2.2.2.1,s0.2.2.2.2.2.1,s0.2.1⟩:aj),s0.2.2.2.2.2.2.1,s0.2.2.2.2.2.2.2.1,s0.2.2.2.2.2.2.2.2.1,s0.2.2.1,s0.2.2.2.2.2.2.2.2.2.1,s0.2.2.2.2.2.2.2.2.2.2,s0.2.2.2.1⟩:av) (aL (s0.1+1))).bind fun y9=>
 some (.inl ((aL (s0.1+1)),y9.aa.change,y9.now,y9.bd,y9.aa.ay,y9.aa.off,y9.ah,y9.aq,y9.ae,y9.aH,y9.skip)))
 (some (.inl ((aL (s0.1+1)),s0.2.1,s0.2.2.1,s0.2.2.2.1,s0.2.2.2.2.1,s0.2.2.2.2.2.1,s0.2.2.2.2.2.2.1,s0.2.2.2.2.2.2.2.1,s0.2.2.2.2.2.2.2.2.1,s0.2.2.2.2.2.2.2.2.2.1,s0.2.2.2.2.2.2.2.2.2.2))))
 (some (.inr (s0.2.1,s0.2.2.1,s0.2.2.2.1,s0.2.2.2.2.1,s0.2.2.2.2.2.1,s0.2.2.2.2.2.2.1,s0.2.2.2.2.2.2.2.1,s0.2.2.2.2.2.2.2.2.1,s0.2.2.2.2.2.2.2.2.2.1,s0.2.2.2.2.2.2.2.2.2.2)))
instance (t:au)(y1:av):bm (gg t y1):=⟨fun s0=>(U 3 (.be 0 0 0::.be 1 0 0::.un::.be 2 0 0::(U 44 (vi (y1.ah.length:Int)::vi s0.1::(U 19 []))))),fun s0=>[some ⟨.of 46,2,[[vi t.bx,vi t.day]]⟩,some ⟨.of 33,10,[[.v (.slice none 0 0),.v (.slice none 0 0),vi 0,.v (.slice none 0 0),.v (.slice none 0 0),.v (.slice none 0 0),vi 0,.v (.slice none 0 0),.v (.slice none 0 0),vi 0]]⟩,some ⟨.of 33,10,[[.ms 3,.ms 4,vi s0.2.1,.ms 5,.ms 6,.ms 7,vi s0.2.2.1,.ms 8,.ms 9,vi s0.2.2.2.1]]⟩,some ⟨.of 174,6,s0.2.2.2.2.1.map bp⟩,some ⟨.of 3,1,s0.2.2.2.2.2.1.map aG⟩,some ⟨.of 155,11,s0.2.2.2.2.2.2.1.map bc⟩,some ⟨.of 177,4,s0.2.2.2.2.2.2.2.1.map aB⟩,some ⟨.of 46,2,s0.2.2.2.2.2.2.2.2.1.map aS⟩,some ⟨.of 181,6,s0.2.2.2.2.2.2.2.2.2.1.map bt⟩,some ⟨.of 3,1,s0.2.2.2.2.2.2.2.2.2.2.map aG⟩]⟩
def kU(w:av)(t:au):Option (av×Bool):=
 (dP w).bind fun y1=>
 (gI w).bind fun y2=>
 cond (!y2)
 (some (y1,false))
 ((dN w.aa t).bind fun y3=>
 cond (!y3)
 (some (y1,false))
 ((dq w.aa t).bind fun y4=>
 cond (decide (y4≤w.now))
 (some (y1,false))
 ((eM w.ae t).bind fun y5=>
 cond y5
 (some (y1,false))
 (cond (decide (20≤(w.ae.length:Int)))
 (some (y1,false))
 ((cL (bo ((y1.ae:List au).length+([t]:List au).length) 16)).bind fun _=>
 (aD (gg t y1) NN (0,y1.aa.change,y1.now,y1.bd,y1.aa.ay,y1.aa.off,y1.ah,y1.aq,((y1.ae:List au)++[t]),y1.aH,y1.skip)).bind (fun o0=>
 some ((⟨(⟨o0.2.2.2.1,o0.2.2.2.2.1,o0.1⟩:aj),o0.2.2.2.2.2.1,o0.2.2.2.2.2.2.1,o0.2.2.2.2.2.2.2.1,o0.2.1,o0.2.2.2.2.2.2.2.2.1,o0.2.2.2.2.2.2.2.2.2,o0.2.2.1⟩:av),true)))))))
instance (w:av)(t:au):CT Tryz.prog (kU w t):=⟨111,[.ag (fK w),.ag (aS t)],[],fun r=>.tu [.ag [.sl (r.1.aa.ay.map bp),.sl (r.1.aa.off.map aG),vi r.1.aa.change,.sl (r.1.ah.map bc),.sl (r.1.aq.map aB),.sl (r.1.ae.map aS),vi r.1.now,.sl (r.1.aH.map bt),.sl (r.1.skip.map aG),vi r.1.bd],vb r.2],fun r=>[],fun H=>by replace H:=H0 H;unfold kU at H;exact aA Tryz.func111 rfl Tryz.ntmps111 Tryz.results111 fun Q hQ cR=>dU⟩
theorem RS{σ σ' ο ο':Type}{b:σ→Option (σ⊕ο)}{b':σ'→Option (σ'⊕ο')}(I:Nat→σ→σ'→Prop){P:ο→ο'→Prop}
 (h:∀k s s',I k s s'→(∃t t' k',b s=some (.inl t)∧b' s'=some (.inl t')∧k'<k∧I k' t t')∨∃o o',b s=some (.inr o)∧b' s'=some (.inr o')∧P o o'):
 ∀(N k:Nat) (s:σ) (s':σ'),I k s s'→k<N→∃o o',aD b N s=some o∧aD b' N s'=some o'∧P o o'
 |0,k,s,s',_,hN=>by omega
 |N+1,k,s,s',hI,hN=>by
  simp only[aD]
  rcases h k s s' hI with⟨t,t',k',e,e',hk,hI'⟩ |⟨o,o',e,e',hP⟩
  ·rw[e,e']
   exact RS I h N k' t t' hI' (by omega)
  ·rw[e,e']
   exact⟨o,o',rfl,rfl,hP⟩
structure Shut(w:av)(t:au)(x:av):Prop where
 bf:et w.aa t=true
 ZfP:w.now<cd w.aa t
 new:¬t∈w.ae
 few:w.ae.length<20
 ok:pL x
 same:qe ⟨w.aa,w.ah,w.aq,w.ae++[t],w.now,w.aH,w.skip,w.bd⟩ x
 ord:∀(i:Nat) (o:az),w.ah[i]?=some o→∃o',x.ah[i]?=some o'∧(¬t∈kK o→o'=o)∧qW w.aa o o'
theorem Ah{w:av}(h:pL w)(t:au):∃r,kU w t=some r∧cP w t=some r∧(r=(w,false)∨∃x,r=(x,true)∧Shut w t x):=by
 have hf:=h.fit
 obtain⟨p1,p2,p3,p4,p5,p6,p7⟩:=h.parts
 obtain⟨hP,hRs⟩:=pX h
 unfold kU cP
 rw[wk hf,wm hf,VS,VS,sF hf,pQ hf,h.ok,VS,VS,(qR hf.ey t).1,yI hf.ey h.ey,VS,VS]
 simp only[V0,cond_false]
 cases yC:et w.aa t with
 |false=>exact⟨_,rfl,rfl,.inl rfl⟩
 |true=>
 obtain⟨t1,t2,t3,t4,t5⟩:=cH hf.ey h.ey yC
 have rD:dq w.aa t=some (cd w.aa t):=by rw[pU];exact t1
 rw[rD,t1,VS,VS]
 simp only[V0,cond_false]
 by_cases c1:cd w.aa t≤w.now
 ·exact⟨_,by rw[decide_eq_true c1];rfl,by rw[decide_eq_true c1];rfl,.inl rfl⟩
 rw[decide_eq_false c1,cond_false,cond_false,fP,fC hf.ae,VS,VS]
 have hcb:(w.ae.any fun y=>decide (y=t))=ct w.ae t:=rfl
 rw[hcb]
 cases qD:ct w.ae t with
 |true=>exact⟨_,rfl,rfl,.inl rfl⟩
 |false=>
 simp only[cond_false]
 by_cases c2:(20:Int)≤(w.ae.length:Int)
 ·exact⟨_,by rw[decide_eq_true c2];rfl,by rw[decide_eq_true c2];rfl,.inl rfl⟩
 have ha:cL (bo (w.ae.length+([t]:List au).length) 16)=some ():=eR (by simp only[VX,VY];omega) (by omega)
 rw[decide_eq_false c2,cond_false,cond_false,ha,VS,VS]
 let w1:av:=⟨w.aa,w.ah,w.aq,w.ae++[t],w.now,w.aH,w.skip,w.bd⟩
 have hf1:pY w1:=⟨hf.ey,hf.ah,hf.aq,by simp only[w1,V2,VX,VY];omega,hf.aH,hf.skip,hf.aE⟩
 have wU:¬t∈w.ae:=fun hm=>by rw[jg.2 hm]at qD;cases qD
 have key:∃r r',aD (gg t w) NN (0,mK w1)=some r∧aD (fp t) NN (0,mK w1)=some r'∧r'=r∧∃u,r=mK u∧qe w1 u∧tB u (fun j=>if j<w.ah.length then u.ae else w.ae)∧∀(i:Nat) (o:az),w.ah[i]?=some o→∃o',u.ah[i]?=some o'∧(¬t∈kK o→o'=o)∧qW w.aa o o':=by
  refine RS (fun(k:Nat) (s s':Int×Int×Int×Int×(List bM)×(List Int)×(List az)×(List ao)×(List au)×(List br)×(List Int))=>s'=s∧∃(i:Nat) (u:av),s=((i:Int),mK u)∧i+k=w.ah.length∧qe w1 u∧tB u (fun j=>if j<i then u.ae else w.ae)∧
   (∀(j:Nat) (o:az),w.ah[j]?=some o→∃o',u.ah[j]?=some o'∧(¬t∈kK o→o'=o)∧qW w.aa o o')∧∀j,i≤j→u.ah[j]?=w.ah[j]?) (fun k s s' hs=>?_) NN w.ah.length _ _ ⟨rfl,0,w1,rfl,by omega,qe.refl _,⟨hf1,hP.kH,hP.now,hP.GG,fun i o ho=>hP.ord i o ho,hP.sum,fun i=>by simp;omega⟩,fun j o ho=>⟨o,ho,fun _=>rfl,Or.inl rfl⟩,fun j _=>rfl⟩ (by unfold NN;omega)
  obtain⟨rfl,i,u,rfl,hk,hS,hU,hold,uR⟩:=hs
  have hul:u.ah.length=w.ah.length:=hS.len
  by_cases bF:i<w.ah.length
  ·have Hx:decide ((i:Int)<(w.ah.length:Int))=true:=decide_eq_true (by omega)
   have Hy:decide ((i:Int)<(u.ah.length:Int))=true:=decide_eq_true (by omega)
   have wB:aL ((i:Int)+1)=((i+1:Nat):Int):=by rw[aQ (by omega)];omega
   have Gn:=VT bF
   have Gt:u.ah[i]?=some w.ah[i]:=by rw[uR i (V3 _)];exact Gn
   have hg:aC u.ah (i:Int)=some w.ah[i]:=by rw[aR];exact Gt
   have hO:=js hU Gt
   have hlen:=ue hU Gt
   obtain⟨k0,k1,k2,k3⟩:=kB hU Gt
   have Rg:eY w.ah[i]=some (aX w.ah[i]):=(s7 hO.ok.aJ (by omega)).1
   have EU:gD w.ah[i]=some (aX w.ah[i]):=by
    rw[(s7 hO.ok.aJ (by omega)).2.2,if_neg (by omega)]
   have zo:cL (gA (aX w.ah[i]) (w.ah[i].aE.length:Int) w.ah[i].aE.length)=some ():=pR (by unfold gA;exact decide_eq_true ⟨k0,k1,Wv _⟩)
   have tS:cD w.ah[i].aE (aX w.ah[i]) (w.ah[i].aE.length:Int)=kK w.ah[i]:=by
    unfold cD kK
    rw[Xi (by rw[WK];omega)]
   have hrl:(kK w.ah[i]).length≤1048576:=by unfold kK;rw[WK];omega
   have hcr:((kK w.ah[i]).any fun y=>decide (y=t))=ct (kK w.ah[i]) t:=rfl
   cases hc:ct (kK w.ah[i]) t
   rotate_left
   ·have hm:=jg.1 hc
    obtain⟨r1,r2⟩:=LZ hU Gt (fun e=>by rw[e]at hm;cases hm)
    obtain⟨u',e2,e,hR,hU'⟩:=xn hU Gt r1 r2
    obtain⟨s1,⟨o',o1,o2⟩,s3⟩:=JT hU.fit.ey hR Gt
    rw[hS.aa]at o2
    have e':eO ⟨⟨u.aa.ay,u.aa.off,u.aa.change⟩,u.ah,u.aq,u.ae,u.now,u.aH,u.skip,u.bd⟩ ((i+1:Nat):Int)=some u':=e
    have yq:eE ⟨⟨u.aa.ay,u.aa.off,u.aa.change⟩,u.ah,u.aq,u.ae,u.now,u.aH,u.skip,u.bd⟩ (i:Int)=some u':=e2
    refine .inl ⟨(((i+1:Nat):Int),mK u'),_,k-1,?_,?_,by omega,rfl,i+1,u',rfl,by omega,hS.trans s1,?_,fun j o ho=>?_,fun j hj=>?_⟩
    ·unfold gg
     simp only[mK,Hx,cond_true,hg,VS,EU,zo,tS,fC hrl,wB,hcr,hc,bh,e']
    ·unfold fp
     show cond (decide ((i:Int)<(u.ah.length:Int))) _ _=_
     rw[Hy]
     simp only[mK,cond_true,hg,VS,Rg,zo,tS,fP,fC hrl,wB,hcr,hc,bh,yq]
    ·have ef:(fun j=>if j=i then u.ae else if j<i then u.ae else w.ae)=fun j=>if j<i+1 then u'.ae else w.ae:=by
      funext j
      rw[s1.ae]
      by_cases hj:j=i
      ·rw[if_pos hj,if_pos (by omega)]
      ·rw[if_neg hj]
       by_cases hj2:j<i
       ·rw[if_pos hj2,if_pos (by omega)]
       ·rw[if_neg hj2,if_neg (by omega)]
     rw[←ef];exact hU'
    ·by_cases hj:j=i
     ·subst hj
      rw[Gn]at ho
      obtain rfl:=VV ho
      exact⟨o',o1,fun hx=>absurd hm hx,o2⟩
     ·rw[s3 j hj];exact hold j o ho
    ·rw[s3 j (by omega)];exact uR j (by omega)
   ·refine .inl ⟨(((i+1:Nat):Int),mK u),_,k-1,?_,?_,by omega,rfl,i+1,u,rfl,by omega,hS,⟨hU.fit,hU.kH,hU.now,hU.GG,fun j o ho=>?_,hU.sum,fun j=>?_⟩,hold,fun j hj=>uR j (by omega)⟩
    ·unfold gg
     simp only[mK,Hx,cond_true,cond_false,hg,VS,EU,zo,tS,fC hrl,wB,hcr,hc]
    ·unfold fp
     show cond (decide ((i:Int)<(u.ah.length:Int))) _ _=_
     rw[Hy]
     simp only[mK,cond_true,cond_false,hg,VS,Rg,zo,tS,fP,fC hrl,wB,hcr,hc]
    ·by_cases hj:j=i
     ·subst hj
      rw[Gt]at ho
      obtain rfl:=VV ho
      have hv:=hU.ord j _ Gt
      rw[if_neg (Nat.lt_irrefl j)]at hv
      rw[if_pos (Nat.lt_succ_self j)]
      unfold vH iV at hv⊢
      simp only[VZ,Wa]at hv⊢
      refine⟨hv.1,?_⟩
      have Tb:=hv.2
      rw[hS.ae]
      refine XN.2 fun y hy hyc=>?_
      have:=XN.1 Tb y hy
      have Zfi:=jg.1 hyc
      rcases WC.1 Zfi with hx|hx
      ·exact this (jg.2 hx)
      ·obtain rfl:=Wc.1 hx
       have:ct (kK w.ah[j]) y=true:=jg.2 hy
       rw[this]at hc;cases hc
     ·have hv:=hU.ord j o ho
      by_cases hj2:j<i
      ·rw[if_pos hj2]at hv
       rw[if_pos (by omega)];exact hv
      ·rw[if_neg hj2]at hv
       rw[if_neg (by omega)];exact hv
    ·show(if j<i+1 then u.ae else w.ae).length≤1048576
     split
     ·exact hU.fit.ae
     ·exact hf.ae
  ·have Hx:decide ((i:Int)<(w.ah.length:Int))=false:=decide_eq_false (by omega)
   have Hy:decide ((i:Int)<(u.ah.length:Int))=false:=decide_eq_false (by omega)
   refine .inr ⟨mK u,_,?_,?_,rfl,u,rfl,hS,?_,hold⟩
   ·unfold gg
    simp only[mK,Hx,cond_false]
   ·unfold fp
    show cond (decide ((i:Int)<(u.ah.length:Int))) _ _=_
    rw[Hy]
    simp only[mK,cond_false]
   refine⟨hU.fit,hU.kH,hU.now,hU.GG,fun j o ho=>?_,hU.sum,fun j=>?_⟩
   ·have hj:=(VU.1 ho).1
    have hv:=hU.ord j o ho
    rw[if_pos (by omega)]at hv
    rw[if_pos (by omega)];exact hv
   ·show(if j<w.ah.length then u.ae else w.ae).length≤1048576
    split
    ·exact hU.fit.ae
    ·exact hf.ae
 obtain⟨r,_,e,e2,rfl,u,rfl,hS,hU,hold⟩:=key
 have e':aD (gg t w) NN (0,w.aa.change,w.now,w.bd,w.aa.ay,w.aa.off,w.ah,w.aq,w.ae++[t],w.aH,w.skip)=some (mK u):=e
 have yq:aD (fp t) NN (0,w.aa.change,w.now,w.bd,w.aa.ay,w.aa.off,w.ah,w.aq,w.ae++[t],w.aH,w.skip)=some (mK u):=e2
 rw[e',yq,VS]
 refine⟨(u,true),rfl,rfl,.inr ⟨u,rfl,yC,by omega,wU,by omega,?_,hS,hold⟩⟩
 refine Kl ⟨hU.fit,hU.kH,hU.now,hU.GG,fun j o ho=>?_,hU.sum,fun _=>hU.fit.ae⟩ ⟨?_,by rw[hS.aH];exact hRs.aH,by rw[hS.skip];exact hRs.skip,by rw[hS.aH,hS.bd];exact hRs.bd,?_,?_⟩
 ·have hj:=(VU.1 ho).1
  have hv:=hU.ord j o ho
  rw[if_pos (by rw[←hS.len];exact hj)]at hv
  exact hv
 ·rw[hS.ae];simp only[w1,V2,VX,VY];omega
 ·refine cJ.2 fun j x hx=>?_
  unfold rV
  rw[hS.ae,hS.aa]at *
  have rQ:(w.ae++[t])[j]?=some x:=hx
  rw[Wb]
  show(et w.aa x&&!ct ((w.ae++[t]).take j) x)=true
  by_cases hj:j<w.ae.length
  ·rw[Wd hj]at rQ
   have:=cJ.1 hRs.cl j x rQ
   unfold rV at this
   rw[Wb]at this
   rw[List.take_append_of_le_length (by omega)]
   exact this
  ·rw[We (by omega)]at rQ
   have hj0:j-w.ae.length=0:=by
    have:=(VU.1 rQ).1
    simp only[VX,VY]at this;omega
   rw[hj0]at rQ
   obtain rfl:t=x:=by simpa using rQ
   rw[show j=w.ae.length by omega,List.take_left,qD,yC];rfl
 ·refine cJ.2 fun j x hx=>?_
  rw[hS.aH]at hx
  have:=cJ.1 hRs.sc j x hx
  unfold xg at this⊢
  rw[hS.aa,hS.now]
  exact this
def nC(p:az→Bool):Nat→List az→List Int
 |_,[]=>[]
 |i,o::os=>(if p o=true then [((i+1:Nat):Int)]else [])++nC p (i+1) os
theorem sq(p:az→Bool):∀(os:List az) (i:Nat),(nC p i os).length=os.countP p
 | [],_=>rfl
 |o::os,i=>by
  unfold nC
  rw[V2,sq p os,Ym]
  cases p o<;>simp<;>omega
theorem uf{p:az→Bool}{x:Int}:∀{os:List az} {i:Nat},x∈nC p i os↔∃(j:Nat) (o:az),os[j]?=some o∧p o=true∧x=((i+j+1:Nat):Int)
 | [],i=>by simp[nC]
 |o::os,i=>by
  unfold nC
  rw[WC,uf (os:=os) (i:=i+1)]
  constructor
  ·rintro(h|⟨j,o',h1,h2,h3⟩)
   ·cases hp:p o with
    |false=>rw[hp]at h;simp at h
    |true=>rw[hp,if_pos rfl]at h;exact⟨0,o,rfl,hp,by rw[Wc.1 h]⟩
   ·exact⟨j+1,o',by simpa using h1,h2,by rw[h3,show i+1+j+1=i+(j+1)+1 by omega]⟩
  ·rintro⟨j,o',h1,h2,h3⟩
   cases j with
   |zero=>
    obtain rfl:o=o':=by simpa using h1
    exact .inl (by rw[h2,if_pos rfl,h3];simp)
   |succ j=>exact .inr ⟨j,o',by simpa using h1,h2,by rw[h3,show i+1+j+1=i+(j+1)+1 by omega]⟩
theorem C3(p:az→Bool):∀(os:List az) (o:az) (i:Nat),nC p i (os++[o])=nC p i os++(if p o=true then [((i+os.length+1:Nat):Int)]else [])
 | [],o,i=>by simp[nC]
 |x::os,o,i=>by
  simp only[List.cons_append,nC,C3 p os o (i+1),List.append_assoc,VX]
  rw[show i+1+os.length+1=i+(os.length+1)+1 by omega]
theorem Ip{w:av}(hl:w.ah.length≤1048576){body:Int×List Int→Option ((Int×List Int)⊕List Int)}{p:az→Bool}
 (h1:∀(i:Nat) (out:List Int) (o:az),w.ah[i]?=some o→out.length≤i→body ((i:Int),out)=some (.inl (((i+1:Nat):Int),out++(if p o=true then [((i+1:Nat):Int)]else []))))
 (h2:∀out,body ((w.ah.length:Int),out)=some (.inr out)):aD body NN (0,([]:List Int))=some (nC p 0 w.ah):=by
 refine lp (body:=body) (fun i:Nat=>((i:Int),nC p 0 (w.ah.take i))) (n:=w.ah.length) (fun i hi=>?_) (by simp only[Xo];exact h2 _) NN (by unfold NN;omega)
 have ho:=VT hi
 have xC:(nC p 0 (w.ah.take i)).length≤i:=by
  rw[sq]
  exact Wq Xy (by rw[V8];omega)
 rw[h1 i _ _ ho xC,Xe hi,C3,V8,X4 (by omega),Wb]
theorem Mk{n:Nat}(h:n≤1048576):cL (bo (n+1) 8)=some ():=pR (by unfold bo;rw[decide_eq_true_iff];omega)
def dp(n:aj)(o:az):Bool:=!decide (o.state=3)&&decide (aX o=o.aE.length)&&!decide (fx n o=o.aV)
section
variable {w:av} (h:pL w)
include h
theorem zd{i:Nat}{o:az}(ho:w.ah[i]?=some o):fR w o=some (dp w.aa o):=by
 have ik:=mM h.fit h.ok ho
 have hl:=h.fit.aE o (VW ho)
 obtain⟨_,_,c3⟩:=s7 ik.aJ hl
 have yz:=ik.aJ
 unfold fR dp
 rcases ik.cases with⟨k1,k2⟩ |⟨k1,k2⟩ |⟨k1,k2,k3⟩
 ·have yy:aX o=o.aJ:=by unfold aX;rw[if_neg (by omega)]
  have hp:mQ w o=some (fx w.aa o):=by
   unfold mQ fx
   rw[decide_eq_false (show ¬o.state=2 by omega),if_neg (show ¬o.state=2 by omega)];rfl
  rw[c3,yy,if_neg (show ¬(o.aE.length:Int)<o.aJ by omega),hp,decide_eq_false (show ¬o.state=3 by omega)]
  simp only[VS]
  cases decide (o.aJ=(o.aE.length:Int))<;>rfl
 ·have yy:aX o=o.aJ+1:=by unfold aX;rw[if_pos k1]
  obtain⟨t,PU,yC⟩:=DN h.fit h.ok ho ik.aJ.1 k2
  obtain⟨y,hy,_⟩:=dG h.fit.ey yC
  have hp:mQ w o=some (fx w.aa o):=by
   unfold mQ fx
   rw[decide_eq_true k1,if_pos k1,PU,(iH PU).2]
   simp only[cond_true,VS,hy,Wr,Ws]
   unfold bU
   rw[hy];rfl
  rw[c3,yy,if_neg (show ¬(o.aE.length:Int)<o.aJ+1 by omega),hp,decide_eq_false (show ¬o.state=3 by omega)]
  simp only[VS]
  cases decide (o.aJ+1=(o.aE.length:Int))<;>rfl
 ·rw[decide_eq_true k1];rfl
theorem ze:ly w=some (nC (dp w.aa) 0 w.ah):=by
 have Ti:=h.fit.ah
 unfold ly
 rw[sF h.fit,h.ok,VS]
 simp only[V0,cond_false]
 rw[Ip Ti (p:=dp w.aa) (fun i out o ho hlen=>?_) (fun out=>by unfold lz;simp)]
 ·rfl
 ·have bF:=(VU.1 ho).1
  have hg:aC w.ah (i:Int)=some o:=by rw[aR];exact ho
  have hi:aL ((i:Int)+1)=((i+1:Nat):Int):=bI bF (by omega)
  unfold lz
  simp only[decide_eq_true (show(i:Int)<w.ah.length by omega),cond_true,hg,VS,hi,zd h ho,VX,VY,Mk (show out.length≤1048576 by omega)]
  cases dp w.aa o<;>simp
end
theorem GY(n:aj):(ak n).Nodup:=by
 unfold ak XE
 have hs:((ix n).foldl rZ []).Pairwise fun a b=>qB a b=true:=uz XH
 exact hs.imp fun {a b} (bF:qB a b=true) (e:a=b)=>Hh b (by rw[e]at bF;exact bF)
def cB(y2:(List Int))(s0:Int×Int×Int×Int×Int×(List bM)×(List Int)×(List az)×(List ao)×(List au)×(List br)×(List Int)):Option ((Int×Int×Int×Int×Int×(List bM)×(List Int)×(List az)×(List ao)×(List au)×(List br)×(List Int))⊕(Int×Int×Int×Int×(List bM)×(List Int)×(List az)×(List ao)×(List au)×(List br)×(List Int))):=
 cond (decide (s0.2.1<(y2.length:Int)))
 ((aC y2 s0.2.1).bind fun y3=>
 (bh [1,2,3,4,5,6,7,8]).bind fun _=>
 (eO (⟨(⟨s0.2.2.2.2.2.1,s0.2.2.2.2.2.2.1,s0.2.2.1⟩:aj),s0.2.2.2.2.2.2.2.1,s0.2.2.2.2.2.2.2.2.1,s0.2.2.2.2.2.2.2.2.2.1,s0.2.2.2.1,s0.2.2.2.2.2.2.2.2.2.2.1,s0.2.2.2.2.2.2.2.2.2.2.2,s0.2.2.2.2.1⟩:av) y3).bind fun y4=>
 (aC y4.ah (aL (y3-1))).bind fun y5=>
 (fR y4 y5).bind fun y6=>
 cond (!y6)
 (some (.inl ((aL (s0.1+1)),(aL (s0.2.1+1)),y4.aa.change,y4.now,y4.bd,y4.aa.ay,y4.aa.off,y4.ah,y4.aq,y4.ae,y4.aH,y4.skip)))
 (some (.inl (s0.1,(aL (s0.2.1+1)),y4.aa.change,y4.now,y4.bd,y4.aa.ay,y4.aa.off,y4.ah,y4.aq,y4.ae,y4.aH,y4.skip))))
 (some (.inr (s0.1,s0.2.2.1,s0.2.2.2.1,s0.2.2.2.2.1,s0.2.2.2.2.2.1,s0.2.2.2.2.2.2.1,s0.2.2.2.2.2.2.2.1,s0.2.2.2.2.2.2.2.2.1,s0.2.2.2.2.2.2.2.2.2.1,s0.2.2.2.2.2.2.2.2.2.2.1,s0.2.2.2.2.2.2.2.2.2.2.2)))
instance (y2:(List Int)):bm (cB y2):=⟨fun s0=>(.un::.un::.be 0 0 0::.un::.be 1 0 0::vi s0.1::(U 5 (.ms 9::vi (y2.length:Int)::vi s0.2.1::(U 19 [])))),fun s0=>[some ⟨.of 33,10,[[.v (.slice none 0 0),.v (.slice none 0 0),vi 0,.v (.slice none 0 0),.v (.slice none 0 0),.v (.slice none 0 0),vi 0,.v (.slice none 0 0),.v (.slice none 0 0),vi 0]]⟩,some ⟨.of 33,10,[[.ms 2,.ms 3,vi s0.2.2.1,.ms 4,.ms 5,.ms 6,vi s0.2.2.2.1,.ms 7,.ms 8,vi s0.2.2.2.2.1]]⟩,some ⟨.of 174,6,s0.2.2.2.2.2.1.map bp⟩,some ⟨.of 3,1,s0.2.2.2.2.2.2.1.map aG⟩,some ⟨.of 155,11,s0.2.2.2.2.2.2.2.1.map bc⟩,some ⟨.of 177,4,s0.2.2.2.2.2.2.2.2.1.map aB⟩,some ⟨.of 46,2,s0.2.2.2.2.2.2.2.2.2.1.map aS⟩,some ⟨.of 181,6,s0.2.2.2.2.2.2.2.2.2.2.1.map bt⟩,some ⟨.of 3,1,s0.2.2.2.2.2.2.2.2.2.2.2.map aG⟩,some ⟨.of 3,1,y2.map aG⟩]⟩
def eC(w:av):Option (av×Int):=
 (dP w).bind fun y1=>
 (ly w).bind fun y2=>
 (aD (cB y2) NN (0,0,y1.aa.change,y1.now,y1.bd,y1.aa.ay,y1.aa.off,y1.ah,y1.aq,y1.ae,y1.aH,y1.skip)).bind (fun o0=>
 some ((⟨(⟨o0.2.2.2.2.1,o0.2.2.2.2.2.1,o0.2.1⟩:aj),o0.2.2.2.2.2.2.1,o0.2.2.2.2.2.2.2.1,o0.2.2.2.2.2.2.2.2.1,o0.2.2.1,o0.2.2.2.2.2.2.2.2.2.1,o0.2.2.2.2.2.2.2.2.2.2,o0.2.2.2.1⟩:av),o0.1))
instance (w:av):CT Tryz.prog (eC w):=⟨112,[.ag (fK w)],[],fun r=>.tu [.ag [.sl (r.1.aa.ay.map bp),.sl (r.1.aa.off.map aG),vi r.1.aa.change,.sl (r.1.ah.map bc),.sl (r.1.aq.map aB),.sl (r.1.ae.map aS),vi r.1.now,.sl (r.1.aH.map bt),.sl (r.1.skip.map aG),vi r.1.bd],vi r.2],fun r=>[],fun H=>by replace H:=H0 H;unfold eC at H;exact aA Tryz.func112 rfl Tryz.ntmps112 Tryz.results112 fun Q hQ cR=>dU⟩
theorem countP_set{α:Type}(p:α→Bool):∀{l:List α} {i:Nat} {o:α} (x:α),l[i]?=some o→(l.set i x).countP p+(if p o=true then 1 else 0)=l.countP p+(if p x=true then 1 else 0)
 | [],_,_,_,h=>by simp at h
 |a::l,0,o,x,h=>by
  obtain rfl:a=o:=by simpa using h
  simp only[List.set_cons_zero,Ym];omega
 |a::l,i+1,o,x,h=>by
  have:=countP_set p x (l:=l) (i:=i) (o:=o) (by simpa using h)
  simp only[List.set_cons_succ,Ym];omega
theorem JC(p:az→Bool):∀(os:List az) (i:Nat),(nC p i os).Pairwise (· < ·)
 | [],_=>XH
 |o::os,i=>by
  unfold nC
  refine XZ.2 ⟨by cases p o<;>simp,JC p os (i+1),fun a ha b hb=>?_⟩
  obtain⟨j,o',_,_,rfl⟩:=uf.1 hb
  cases hp:p o with
  |false=>rw[hp]at ha;simp at ha
  |true=>
   rw[hp,if_pos rfl]at ha
   obtain rfl:=Wc.1 ha
   omega
theorem BM.same{w w':av}(h:BM w)(k:qe w w'):BM w':=by
 refine⟨by rw[k.ae];exact h.ae,by rw[k.aH];exact h.aH,by rw[k.skip];exact h.skip,by rw[k.aH,k.bd];exact h.bd,?_,?_⟩
 ·have:=h.cl
  unfold rV at this⊢
  rw[k.ae,k.aa];exact this
 ·have:=h.sc
  unfold xg at this⊢
  rw[k.aH,k.aa,k.now];exact this
def BK(n:aj)(ae:List au)(now:Int)(bs:List ao)(i:Nat)(o:az):Prop:=(∃x,bE n bs ae (fx n o) o.aV (atR n now o) o.ab=some (x,false))∨
 ∃aE,bE n bs ae (fx n o) o.aV (atR n now o) o.ab=some (aE,true)∧ck n bs ((i+1:Nat):Int) o.ab aE=some (bs,false)
structure Bl(w x:av)(n:Nat):Prop where
 ok:pL x
 same:qe w x
 num:n+x.ah.countP (dp w.aa)=w.ah.countP (dp w.aa)
 ord:∀(i:Nat) (o:az),w.ah[i]?=some o→∃o',x.ah[i]?=some o'∧qW w.aa o o'∧(o'=o∨dp w.aa o=true∧dp w.aa o'=false)
 none:∀(i:Nat) (o:az),w.ah[i]?=some o→x.ah[i]?=some o→dp w.aa o=true→∃bs,(∀b∈bs,b∈x.aq)∧bJ w.aa bs=true∧BK w.aa w.ae w.now bs i o
theorem uJ{n:aj}{o:az}(h:dp n o=true):¬o.state=3∧aX o=o.aE.length∧¬fx n o=o.aV∧kK o=[]∧bQ o=o.aE:=by
 unfold dp at h
 simp only[VZ,Wa,decide_eq_true_iff,decide_eq_false_iff_not]at h
 refine⟨h.1.1,h.1.2,h.2,?_,?_⟩
 ·unfold kK
  exact XU (by omega)
 ·unfold bQ
  exact Xi (by omega)
theorem vS{w:av}(h:pL w):gU w=some (nC (dp w.aa) 0 w.ah):=by
 have Ti:=h.fit.ah
 unfold gU
 rw[pQ h.fit,h.ok,VS]
 simp only[V0,cond_false]
 rw[Ip Ti (p:=dp w.aa) (fun i out o ho hlen=>?_) (fun out=>by unfold lQ;simp)]
 ·rfl
 ·have bF:=(VU.1 ho).1
  have hi:aL ((i:Int)+1)=((i+1:Nat):Int):=bI bF (by omega)
  obtain⟨b,b1,b2,_⟩:=J9 h.fit h.ok ho
  rw[zd h ho]at b1
  have hb:iT w (i:Int)=some (dp w.aa o):=by rw[b2,VV b1]
  unfold lQ
  simp only[decide_eq_true (show(i:Int)<w.ah.length by omega),cond_true,hi,hb,VS,VX,VY,Mk (show out.length≤1048576 by omega)]
  cases dp w.aa o<;>simp
theorem Dn{w:av}(h:pL w):∃(x:av) (n:Nat),eC w=some (x,(n:Int))∧cF w=some (x,(n:Int))∧Bl w x n:=by
 have hf:=h.fit
 obtain⟨p1,p2,p3,p4,p5,p6,p7⟩:=h.parts
 let ids:=nC (dp w.aa) 0 w.ah
 have Ze0:ids.length≤30:=by
  show(nC _ 0 w.ah).length≤30
  rw[sq];exact Wq Xy p2
 have hpw:ids.Pairwise (· < ·):=JC _ _ _
 unfold eC cF
 rw[wk hf,wm hf,VS,VS,ze h,vS h,VS,VS]
 have key:∃r r',aD (cB ids) NN (0,0,mK w)=some r∧aD (eo ids) NN (0,mK w)=some r'∧∃(u:av) (m:Nat),r=((m:Int),mK u)∧r'=mK u∧Bl w u m:=by
  refine RS (fun(k:Nat) (s:Int×Int×Int×Int×Int×(List bM)×(List Int)×(List az)×(List ao)×(List au)×(List br)×(List Int)) (s':Int×Int×Int×Int×(List bM)×(List Int)×(List az)×(List ao)×(List au)×(List br)×(List Int))=>
   ∃(a:Nat) (u:av) (m:Nat),s=((m:Int),(a:Int),mK u)∧s'=((a:Int),mK u)∧a+k=ids.length∧pL u∧qe w u∧m≤a∧m+u.ah.countP (dp w.aa)=w.ah.countP (dp w.aa)∧
   (∀(i:Nat) (o:az),w.ah[i]?=some o→∃o',u.ah[i]?=some o'∧qW w.aa o o'∧(o'=o∨dp w.aa o=true∧dp w.aa o'=false))∧
   (∀(i:Nat) (o:az),w.ah[i]?=some o→(∀b,b<a→¬ids[b]?=some ((i+1:Nat):Int))→u.ah[i]?=some o)∧
   (∀(i:Nat) (o:az),w.ah[i]?=some o→u.ah[i]?=some o→dp w.aa o=true→(∃b,b<a∧ids[b]?=some ((i+1:Nat):Int))→∃bs,(∀b∈bs,b∈u.aq)∧bJ w.aa bs=true∧BK w.aa w.ae w.now bs i o)) (fun k s s' hs=>?_) NN ids.length _ _
   ⟨0,w,0,rfl,rfl,by omega,h,qe.refl w,V3 _,Wb _,fun i o ho=>⟨o,ho,Or.inl rfl,.inl rfl⟩,fun i o ho _=>ho,fun i o _ _ _ hb=>by obtain⟨b,hb,_⟩:=hb;omega⟩ (by unfold NN;omega)
  obtain⟨a,u,m,rfl,rfl,hk,hu,hS,hma,Zdg,hold,uR,EX⟩:=hs
  have hd0:∀b,decide ((a:Int)<(ids.length:Int))=b→decide ((a:Int)<(ids.length:Int))=b:=fun _ e=>e
  by_cases bF:a<ids.length
  ·have hd:decide ((a:Int)<(ids.length:Int))=true:=decide_eq_true (by omega)
   have hwa:aL ((a:Int)+1)=((a+1:Nat):Int):=by rw[aQ (by omega)];omega
   have hwm:aL ((m:Int)+1)=((m+1:Nat):Int):=by rw[aQ (by omega)];omega
   have hia:ids[a]?=some ids[a]:=VT bF
   have hga:aC ids (a:Int)=some ids[a]:=by rw[aR];exact hia
   obtain⟨i,o,Gn,rD,hx⟩:=uf.1 (Wm bF)
   rw[Wb]at hx
   have rQ:ids[a]=((i+1:Nat):Int):=hx
   have ZeY:i<30:=by have:=(VU.1 Gn).1;omega
   have Gt:u.ah[i]?=some o:=uR i o Gn fun b hb e=>by
    have uk:b<ids.length:=by omega
    rw[VT uk]at e
    have:=WG.1 hpw b a uk bF hb
    rw[VV e,rQ]at this
    omega
   obtain⟨hU,hRs⟩:=pX hu
   obtain⟨r1,r2,r3,r4,r5⟩:=uJ rD
   have nU:u.aa=w.aa:=hS.aa
   obtain⟨u',e2,e,hR,hU'⟩:=xn hU Gt r1 (by rw[nU];exact r3)
   obtain⟨s1,⟨o',o1,o2⟩,s3⟩:=JT hU.fit.ey hR Gt
   rw[nU]at o2
   have pd:pL u':=by
    refine Kl ?_ (hRs.same s1)
    have ef:(fun j=>if j=i then u.ae else u.ae)=fun _:Nat=>u'.ae:=by
     funext j;rw[s1.ae];split<;>rfl
    rw[←ef];exact hU'
   have EW:fQ u i o=u.aq:=by unfold fQ;rw[r4];exact EK _ _
   have DX:=zd pd o1
   have Zde:u'.aa=w.aa:=s1.aa.trans nU
   rw[Zde]at DX
   have wB:aL (((i+1:Nat):Int)-1)=(i:Int):=by rw[aQ (by omega)];omega
   have Tf:aC u'.ah (i:Int)=some o':=by rw[aR];exact o1
   have e':eO ⟨⟨u.aa.ay,u.aa.off,u.aa.change⟩,u.ah,u.aq,u.ae,u.now,u.aH,u.skip,u.bd⟩ ((i+1:Nat):Int)=some u':=e
   have yq:eE ⟨⟨u.aa.ay,u.aa.off,u.aa.change⟩,u.ah,u.aq,u.ae,u.now,u.aH,u.skip,u.bd⟩ (i:Int)=some u':=e2
   have vw:eo ids ((a:Int),mK u)=some (.inl (((a+1:Nat):Int),mK u')):=by
    unfold eo
    simp only[mK,hd,cond_true,hga,VS,bh,rQ,wB,yq,hwa]
   have him:∀v,dp w.aa o'=v→cB ids ((m:Int),(a:Int),mK u)=some (.inl ((((if v=true then m else m+1):Nat):Int),((a+1:Nat):Int),mK u')):=fun v hv=>by
    unfold cB
    simp only[mK,hd,cond_true,hga,VS,bh,rQ,wB,e',Tf,hwa]
    rw[DX,hv,VS]
    cases v with
    |true=>rfl
    |false=>rw[hwm];rfl
   rcases hR with⟨uQ,x7⟩ |⟨aE,bs,hN,x7⟩
   ·
    have huu:u'=u:=by
     have wV:u.ah.set i o=u.ah:=by
      refine Yj fun j=>?_
      by_cases hj:i=j
      ·subst hj
       rw[Wl (VU.1 Gt).1,Gt]
      ·rw[Wt hj]
     rw[x7,EW,r5]
     show(⟨u.aa,u.ah.set i o,u.aq,u.ae,u.now,u.aH,u.skip,u.bd⟩:av)=u
     rw[wV]
    rw[huu]at o1 vw him
    rw[Gt]at o1
    obtain rfl:=VV o1
    refine .inl ⟨_,_,k-1,him _ rD,vw,by omega,a+1,u,m,by rw[if_pos rfl],rfl,by omega,hu,hS,by omega,Zdg,hold,fun j x hj hb=>uR j x hj fun b PN=>hb b (by omega),fun j x hj hux hsx hb=>?_⟩
    obtain⟨b,uY,zk⟩:=hb
    by_cases PN:b<a
    ·exact EX j x hj hux hsx ⟨b,PN,zk⟩
    ·have hbe:b=a:=by omega
     subst hbe
     rw[hia,rQ]at zk
     have wz:j=i:=by have:=VV zk;omega
     subst wz
     rw[Gn]at hj
     obtain rfl:=VV hj
     refine⟨u.aq,fun b hb=>hb,by rw[←nU];exact hU.kH,?_⟩
     have Rr:=uQ
     unfold P8 at Rr
     rw[EW,nU,hS.ae,hS.now]at Rr
     exact Rr
   ·
    have Zfh:¬aE=[]:=fun hw=>by
     have hl:=hN.Kj.last
     rw[hw]at hl
     have AA:(some (fx u.aa o):Option ByteArray)=some o.aV:=hl
     rw[nU]at AA
     exact r3 (VV AA)
    have zn:o'=eT o (bQ o++aE):=by
     rw[x7]at o1
     have:(u.ah.set i (eT o (bQ o++aE)))[i]?=some o':=o1
     rw[Wl (VU.1 Gt).1]at this
     exact(VV this).symm
    have Gm:dp w.aa o'=false:=by
     have yy:aX o'=aX o:=by rw[zn];rfl
     have K7:0<aE.length:=by cases aE with
      |nil=>exact absurd rfl Zfh
      |cons a b=>simp
     have hol:o'.aE.length=o.aE.length+aE.length:=by
      rw[zn]
      show(bQ o++aE).length=_
      rw[V2,r5]
     unfold dp
     rw[decide_eq_false (show ¬aX o'=(o'.aE.length:Int)by omega)];simp
    have D6:u'.aq=bs:=by rw[x7];rfl
    have uC:∀b∈u.aq,b∈u'.aq:=fun b hb=>by
     rw[D6]
     exact hN.perm.mem_iff.2 (Xd _ (by rw[EW];exact hb))
    have D7:=countP_set (dp w.aa) (eT o (bQ o++aE)) Gt
    rw[←zn,rD,Gm]at D7
    have hou:u'.ah=u.ah.set i o':=by rw[x7,zn];rfl
    simp only[if_true,Bool.false_eq_true,if_false]at D7
    refine .inl ⟨_,_,k-1,him _ Gm,vw,by omega,a+1,u',m+1,by simp,rfl,by omega,pd,hS.trans s1,by omega,by rw[hou];omega,fun j x hj=>?_,fun j x hj hb=>?_,fun j x hj hux hsx hb=>?_⟩
    ·by_cases wz:j=i
     ·subst wz
      rw[Gn]at hj
      obtain rfl:=VV hj
      exact⟨o',o1,o2,.inr ⟨rD,Gm⟩⟩
     ·rw[s3 j wz];exact hold j x hj
    ·have wz:¬j=i:=fun e=>hb a (by omega) (by rw[hia,rQ,e])
     rw[s3 j wz]
     exact uR j x hj fun b PN=>hb b (by omega)
    ·have wz:¬j=i:=fun e=>by
      subst e
      rw[o1]at hux
      rw[←VV hux,Gm]at hsx
      cases hsx
     rw[s3 j wz]at hux
     obtain⟨b,uY,zk⟩:=hb
     have PN:b<a:=by
      rcases WB b a with Tl|Tl
      ·exact Tl
      ·have hbe:b=a:=by omega
       subst hbe
       rw[hia,rQ]at zk
       exact absurd (by have:=VV zk;omega) wz
     obtain⟨bs',q1,q2,q3⟩:=EX j x hj hux hsx ⟨b,PN,zk⟩
     exact⟨bs',fun b hb=>uC b (q1 b hb),q2,q3⟩
  ·have hd:decide ((a:Int)<(ids.length:Int))=false:=decide_eq_false (by omega)
   refine .inr ⟨((m:Int),mK u),mK u,?_,?_,u,m,rfl,rfl,hu,hS,Zdg,hold,fun i o ho Gt rD=>EX i o ho Gt rD ?_⟩
   ·unfold cB
    simp only[mK,hd,cond_false]
   ·unfold eo
    simp only[mK,hd,cond_false]
   ·have hm:((0+i+1:Nat):Int)∈ids:=uf.2 ⟨i,o,ho,rD,rfl⟩
    rw[Wb]at hm
    obtain⟨b,hb,hbe⟩:=Wf hm
    exact⟨b,by omega,by rw[VT hb,hbe]⟩
 obtain⟨r,r',e,e2,u,m,rfl,rfl,hR⟩:=key
 have e':aD (cB (nC (dp w.aa) 0 w.ah)) NN (0,0,w.aa.change,w.now,w.bd,w.aa.ay,w.aa.off,w.ah,w.aq,w.ae,w.aH,w.skip)=some ((m:Int),mK u):=e
 have yq:aD (eo (nC (dp w.aa) 0 w.ah)) NN (0,w.aa.change,w.now,w.bd,w.aa.ay,w.aa.off,w.ah,w.aq,w.ae,w.aH,w.skip)=some (mK u):=e2
 rw[e',yq]
 refine⟨u,m,rfl,?_,hR⟩
 have hsu:=vS hR.ok
 have Zfd:gU ⟨⟨u.aa.ay,u.aa.off,u.aa.change⟩,u.ah,u.aq,u.ae,u.now,u.aH,u.skip,u.bd⟩=some (nC (dp u.aa) 0 u.ah):=hsu
 simp only[mK,VS,Zfd]
 have hn:=hR.num
 have hnn:dp u.aa=dp w.aa:=by rw[hR.same.aa]
 rw[sq,sq,hnn]
 have hc:w.ah.countP (dp w.aa)≤30:=Wq Xy p2
 rw[aQ (by omega),show((w.ah.countP (dp w.aa):Nat):Int)-((u.ah.countP (dp w.aa):Nat):Int)=(m:Int)by omega]
def oq(o:aM)(p:a8):Option (Int×aM):=
 (mn o.aY o.ba p).bind fun y1=>
 cond (!y1.2)
 (some (2,o))
 (cond (decide (y1.1=0))
 (some (2,o))
 ((ll 8 []).bind fun _=>
 (fo o.world p.ar p.label.aV p.label.ax p.ab).bind fun y2=>
 cond (!y2.2.2)
 (some (3,o))
 ((kh o.lines y2.2.1 y1.1 o.world.now).bind fun y3=>
 cond (!decide (y3.2=0))
 (some (4,o))
 ((gJ p).bind fun y4=>
 (cL (bo ((o.aK:List a8).length+([y4]:List a8).length) 88)).bind fun _=>
 some (0,(⟨y2.1,o.aY,o.ba,o.aN,((o.aK:List a8)++[y4]),y3.1,o.aF⟩:aM))))))
instance (o:aM)(p:a8):CT Tryz.prog (oq o p):=⟨32,[.be 0 0 0,.ag (bS p)],[some ⟨.of 40,16,[[.sl (o.world.aa.ay.map bp),.sl (o.world.aa.off.map aG),vi o.world.aa.change,.sl (o.world.ah.map bc),.sl (o.world.aq.map aB),.sl (o.world.ae.map aS),vi o.world.now,.sl (o.world.aH.map bt),.sl (o.world.skip.map aG),vi o.world.bd,.ms 1,.ms 2,.ms 3,.ms 4,.ms 5,.ms 6]]⟩,some ⟨.of 104,2,o.aY.map cK⟩,some ⟨.of 107,4,o.ba.map cO⟩,some ⟨.of 3,1,o.aN.map aG⟩,some ⟨.of 44,7,o.aK.map bS⟩,some ⟨.of 111,4,o.lines.map bO⟩,some ⟨.of 48,13,o.aF.map ig⟩],fun r=>vi r.1,fun r=>[some ⟨.of 40,16,[[.sl (r.2.world.aa.ay.map bp),.sl (r.2.world.aa.off.map aG),vi r.2.world.aa.change,.sl (r.2.world.ah.map bc),.sl (r.2.world.aq.map aB),.sl (r.2.world.ae.map aS),vi r.2.world.now,.sl (r.2.world.aH.map bt),.sl (r.2.world.skip.map aG),vi r.2.world.bd,.ms 1,.ms 2,.ms 3,.ms 7,.ms 8,.ms 6]]⟩,some ⟨.of 104,2,r.2.aY.map cK⟩,some ⟨.of 107,4,r.2.ba.map cO⟩,some ⟨.of 3,1,r.2.aN.map aG⟩,none,none,some ⟨.of 48,13,r.2.aF.map ig⟩,some ⟨.of 44,7,r.2.aK.map bS⟩,some ⟨.of 111,4,r.2.lines.map bO⟩],fun H=>by replace H:=H0 H;unfold oq at H;exact aA Tryz.func32 rfl Tryz.ntmps32 Tryz.results32 fun Q hQ cR=>Mb⟩
def iq(o:aM)(a:cg):Option (Int×aM):=
 cond (decide ((o.world.ah.length:Int)<a.order))
 (some (4,o))
 ((aC o.world.ah (aL (a.order-1))).bind fun y1=>
 (nt o.lines a.order a.bz o.world.now).bind fun y2=>
 cond (decide (a.kind=6))
 (cond (!decide (y1.state=3))
 (some (4,o))
 ((km o.lines a.order y1.dX y1.bD o.aN o.world.now).bind fun y3=>
 cond (!decide (y3.2=0))
 (some (4,o))
 (some (0,(⟨o.world,o.aY,o.ba,o.aN,o.aK,y3.1,o.aF⟩:aM)))))
 (cond (!decide (y2.2=0))
 (some (4,o))
 (some (0,(⟨o.world,o.aY,o.ba,o.aN,o.aK,y2.1,o.aF⟩:aM)))))
instance (o:aM)(a:cg):CT Tryz.prog (iq o a):=⟨33,[.be 0 0 0,.ag (ig a)],[some ⟨.of 40,16,[[.sl (o.world.aa.ay.map bp),.sl (o.world.aa.off.map aG),vi o.world.aa.change,.sl (o.world.ah.map bc),.sl (o.world.aq.map aB),.sl (o.world.ae.map aS),vi o.world.now,.sl (o.world.aH.map bt),.sl (o.world.skip.map aG),vi o.world.bd,.ms 1,.ms 2,.ms 3,.ms 4,.ms 5,.ms 6]]⟩,some ⟨.of 104,2,o.aY.map cK⟩,some ⟨.of 107,4,o.ba.map cO⟩,some ⟨.of 3,1,o.aN.map aG⟩,some ⟨.of 44,7,o.aK.map bS⟩,some ⟨.of 111,4,o.lines.map bO⟩,some ⟨.of 48,13,o.aF.map ig⟩],fun r=>vi r.1,fun r=>[some ⟨.of 40,16,[[.sl (r.2.world.aa.ay.map bp),.sl (r.2.world.aa.off.map aG),vi r.2.world.aa.change,.sl (r.2.world.ah.map bc),.sl (r.2.world.aq.map aB),.sl (r.2.world.ae.map aS),vi r.2.world.now,.sl (r.2.world.aH.map bt),.sl (r.2.world.skip.map aG),vi r.2.world.bd,.ms 1,.ms 2,.ms 3,.ms 4,.ms 7,.ms 6]]⟩,some ⟨.of 104,2,r.2.aY.map cK⟩,some ⟨.of 107,4,r.2.ba.map cO⟩,some ⟨.of 3,1,r.2.aN.map aG⟩,some ⟨.of 44,7,r.2.aK.map bS⟩,none,some ⟨.of 48,13,r.2.aF.map ig⟩,some ⟨.of 111,4,r.2.lines.map bO⟩],fun H=>by replace H:=H0 H;unfold iq at H;exact aA Tryz.func33 rfl Tryz.ntmps33 Tryz.results33 fun Q hQ cR=>Mb⟩
def jo(o:aM)(a:cg):Option (Int×aM):=
 cond (decide (a.kind=3))
 (cond (decide (a.bH≤o.world.now))
 (some (6,o))
 ((mj o.world a.bH).bind fun y1=>
 some (0,(⟨y1,o.aY,o.ba,o.aN,o.aK,o.lines,o.aF⟩:aM))))
 (cond (decide (a.kind=4))
 ((kU o.world a.bf).bind fun y2=>
 cond (!y2.2)
 (some (6,o))
 (some (0,(⟨y2.1,o.aY,o.ba,o.aN,o.aK,o.lines,o.aF⟩:aM))))
 (cond (decide (a.kind=5))
 ((eC o.world).bind fun y3=>
 cond (decide (y3.2=0))
 (some (6,o))
 (some (0,(⟨y3.1,o.aY,o.ba,o.aN,o.aK,o.lines,o.aF⟩:aM))))
 (some (0,o))))
instance (o:aM)(a:cg):CT Tryz.prog (jo o a):=⟨34,[.be 0 0 0,.ag (ig a)],[some ⟨.of 40,16,[[.sl (o.world.aa.ay.map bp),.sl (o.world.aa.off.map aG),vi o.world.aa.change,.sl (o.world.ah.map bc),.sl (o.world.aq.map aB),.sl (o.world.ae.map aS),vi o.world.now,.sl (o.world.aH.map bt),.sl (o.world.skip.map aG),vi o.world.bd,.ms 1,.ms 2,.ms 3,.ms 4,.ms 5,.ms 6]]⟩,some ⟨.of 104,2,o.aY.map cK⟩,some ⟨.of 107,4,o.ba.map cO⟩,some ⟨.of 3,1,o.aN.map aG⟩,some ⟨.of 44,7,o.aK.map bS⟩,some ⟨.of 111,4,o.lines.map bO⟩,some ⟨.of 48,13,o.aF.map ig⟩],fun r=>vi r.1,fun r=>[some ⟨.of 40,16,[[.sl (r.2.world.aa.ay.map bp),.sl (r.2.world.aa.off.map aG),vi r.2.world.aa.change,.sl (r.2.world.ah.map bc),.sl (r.2.world.aq.map aB),.sl (r.2.world.ae.map aS),vi r.2.world.now,.sl (r.2.world.aH.map bt),.sl (r.2.world.skip.map aG),vi r.2.world.bd,.ms 1,.ms 2,.ms 3,.ms 4,.ms 5,.ms 6]]⟩,some ⟨.of 104,2,r.2.aY.map cK⟩,some ⟨.of 107,4,r.2.ba.map cO⟩,some ⟨.of 3,1,r.2.aN.map aG⟩,some ⟨.of 44,7,r.2.aK.map bS⟩,some ⟨.of 111,4,r.2.lines.map bO⟩,some ⟨.of 48,13,r.2.aF.map ig⟩],fun H=>by replace H:=H0 H;unfold jo at H;exact aA Tryz.func34 rfl Tryz.ntmps34 Tryz.results34 fun Q hQ cR=>Mb⟩
def gP(o:aM)(y1:av)(y2:(List aW))(s0:Int×(List a8)):Option ((Int×(List a8))⊕(List a8)):=
 cond (decide (s0.1<(o.aK.length:Int)))
 ((aC o.aK s0.1).bind fun y3=>
 (gJ y3).bind fun y4=>
 (cL (bo ((s0.2:List a8).length+([y4]:List a8).length) 88)).bind fun _=>
 some (.inl ((aL (s0.1+1)),((s0.2:List a8)++[y4]))))
 (some (.inr s0.2))
instance (o:aM)(y1:av)(y2:(List aW)):bm (gP o y1 y2):=⟨fun s0=>(.un::.be 0 0 0::.be 1 0 0::.be 2 0 0::(U 24 (.sl (o.aK.map bS)::vi (o.aK.length:Int)::vi s0.1::(U 27 [])))),fun s0=>[some ⟨.of 40,16,[[.sl (o.world.aa.ay.map bp),.sl (o.world.aa.off.map aG),vi o.world.aa.change,.sl (o.world.ah.map bc),.sl (o.world.aq.map aB),.sl (o.world.ae.map aS),vi o.world.now,.sl (o.world.aH.map bt),.sl (o.world.skip.map aG),vi o.world.bd,.sl (o.aY.map cK),.sl (o.ba.map cO),.sl (o.aN.map aG),.sl (o.aK.map bS),.sl (o.lines.map bO),.sl (o.aF.map ig)]]⟩,some ⟨.of 40,16,[[.v (.slice none 0 0),.v (.slice none 0 0),vi 0,.v (.slice none 0 0),.v (.slice none 0 0),.v (.slice none 0 0),vi 0,.v (.slice none 0 0),.v (.slice none 0 0),vi 0,.v (.slice none 0 0),.v (.slice none 0 0),.v (.slice none 0 0),.v (.slice none 0 0),.v (.slice none 0 0),.v (.slice none 0 0)]]⟩,some ⟨.of 40,16,[[.ms 3,.ms 4,vi y1.aa.change,.ms 5,.ms 6,.ms 7,vi y1.now,.ms 8,.ms 9,vi y1.bd,.ms 10,.ms 11,.ms 12,.ms 13,.ms 14,.v (.slice none 0 0)]]⟩,some ⟨.of 174,6,y1.aa.ay.map bp⟩,some ⟨.of 3,1,y1.aa.off.map aG⟩,some ⟨.of 155,11,y1.ah.map bc⟩,some ⟨.of 177,4,y1.aq.map aB⟩,some ⟨.of 46,2,y1.ae.map aS⟩,some ⟨.of 181,6,y1.aH.map bt⟩,some ⟨.of 3,1,y1.skip.map aG⟩,some ⟨.of 104,2,((([]:List bL):List bL)++o.aY).map cK⟩,some ⟨.of 107,4,((([]:List bN):List bN)++o.ba).map cO⟩,some ⟨.of 3,1,((([]:List Int):List Int)++o.aN).map aG⟩,some ⟨.of 44,7,s0.2.map bS⟩,some ⟨.of 111,4,y2.map bO⟩]⟩
def gQ(o:aM)(y1:av)(y2:(List aW))(o0:(List a8))(s1:Int×(List cg)):Option ((Int×(List cg))⊕(List cg)):=
 cond (decide (s1.1<(o.aF.length:Int)))
 ((aC o.aF s1.1).bind fun y5=>
 (fW y5).bind fun y6=>
 (cL (bo ((s1.2:List cg).length+([y6]:List cg).length) 136)).bind fun _=>
 some (.inl ((aL (s1.1+1)),((s1.2:List cg)++[y6]))))
 (some (.inr s1.2))
instance (o:aM)(y1:av)(y2:(List aW))(o0:(List a8)):bm (gQ o y1 y2 o0):=⟨fun s1=>(.un::.un::.be 0 0 0::.be 1 0 0::(U 39 (.sl (o.aF.map ig)::vi (o.aF.length:Int)::vi s1.1::(U 12 [])))),fun s1=>[some ⟨.of 40,16,[[.v (.slice none 0 0),.v (.slice none 0 0),vi 0,.v (.slice none 0 0),.v (.slice none 0 0),.v (.slice none 0 0),vi 0,.v (.slice none 0 0),.v (.slice none 0 0),vi 0,.v (.slice none 0 0),.v (.slice none 0 0),.v (.slice none 0 0),.v (.slice none 0 0),.v (.slice none 0 0),.v (.slice none 0 0)]]⟩,some ⟨.of 40,16,[[.ms 2,.ms 3,vi y1.aa.change,.ms 4,.ms 5,.ms 6,vi y1.now,.ms 7,.ms 8,vi y1.bd,.ms 9,.ms 10,.ms 11,.ms 12,.ms 13,.ms 14]]⟩,some ⟨.of 174,6,y1.aa.ay.map bp⟩,some ⟨.of 3,1,y1.aa.off.map aG⟩,some ⟨.of 155,11,y1.ah.map bc⟩,some ⟨.of 177,4,y1.aq.map aB⟩,some ⟨.of 46,2,y1.ae.map aS⟩,some ⟨.of 181,6,y1.aH.map bt⟩,some ⟨.of 3,1,y1.skip.map aG⟩,some ⟨.of 104,2,((([]:List bL):List bL)++o.aY).map cK⟩,some ⟨.of 107,4,((([]:List bN):List bN)++o.ba).map cO⟩,some ⟨.of 3,1,((([]:List Int):List Int)++o.aN).map aG⟩,some ⟨.of 44,7,o0.map bS⟩,some ⟨.of 111,4,y2.map bO⟩,some ⟨.of 48,13,s1.2.map ig⟩]⟩
def dD(o:aM):Option aM:=
 (ll 8 []).bind fun _=>
 (dP o.world).bind fun y1=>
 (cL (bo ((([]:List bL):List bL).length+(o.aY:List bL).length) 32)).bind fun _=>
 (cL (bo ((([]:List bN):List bN).length+(o.ba:List bN).length) 32)).bind fun _=>
 (cL (bo ((([]:List Int):List Int).length+(o.aN:List Int).length) 8)).bind fun _=>
 (bG o.lines).bind fun y2=>
 (aD (gP o y1 y2) NN (0,[])).bind (fun o0=>
 (aD (gQ o y1 y2 o0) NN (0,[])).bind (fun o1=>
 some (⟨y1,((([]:List bL):List bL)++o.aY),((([]:List bN):List bN)++o.ba),((([]:List Int):List Int)++o.aN),o0,y2,o1⟩:aM)))
instance (o:aM):CT Tryz.prog (dD o):=⟨29,[.ag (lk o)],[],fun r=>.ag [.sl (r.world.aa.ay.map bp),.sl (r.world.aa.off.map aG),vi r.world.aa.change,.sl (r.world.ah.map bc),.sl (r.world.aq.map aB),.sl (r.world.ae.map aS),vi r.world.now,.sl (r.world.aH.map bt),.sl (r.world.skip.map aG),vi r.world.bd,.ms 0,.ms 1,.ms 2,.ms 3,.ms 4,.ms 5],fun r=>[some ⟨.of 104,2,r.aY.map cK⟩,some ⟨.of 107,4,r.ba.map cO⟩,some ⟨.of 3,1,r.aN.map aG⟩,some ⟨.of 44,7,r.aK.map bS⟩,some ⟨.of 111,4,r.lines.map bO⟩,some ⟨.of 48,13,r.aF.map ig⟩],fun H=>by replace H:=H0 H;unfold dD at H;exact aA Tryz.func29 rfl Tryz.ntmps29 Tryz.results29 fun Q hQ cR=>Mb⟩
def fY(o:aM)(a:cg):Option (aM×Int):=
 (dD o).bind fun y1=>
 (nr o).bind fun y2=>
 cond (!y2)
 (some (y1,1))
 ((gH a).bind fun y3=>
 cond (!y3)
 (some (y1,1))
 (cond (decide (150≤(o.aF.length:Int)))
 (some (y1,5))
 (cond (decide (a.kind=1))
 ((bh [9,3,4,5,6,7,8]).bind fun _=>
 (oq y1 a.aT).bind fun y4=>
 cond (!decide (y4.1=0))
 ((dD o).bind fun y5=>
 some (y5,y4.1))
 ((fW a).bind fun y6=>
 (cL (bo ((y4.2.aF:List cg).length+([y6]:List cg).length) 136)).bind fun _=>
 some ((⟨y4.2.world,y4.2.aY,y4.2.ba,y4.2.aN,y4.2.aK,y4.2.lines,((y4.2.aF:List cg)++[y6])⟩:aM),0)))
 (cond (decide (a.kind=2))
 (cond (decide (a.kind=2))
 ((bh [9,3,4,5,6,7,8]).bind fun _=>
 (iq y1 a).bind fun y7=>
 cond (!decide (y7.1=0))
 ((dD o).bind fun y8=>
 some (y8,y7.1))
 ((fW a).bind fun y9=>
 (cL (bo ((y7.2.aF:List cg).length+([y9]:List cg).length) 136)).bind fun _=>
 some ((⟨y7.2.world,y7.2.aY,y7.2.ba,y7.2.aN,y7.2.aK,y7.2.lines,((y7.2.aF:List cg)++[y9])⟩:aM),0)))
 ((bh [9,3,4,5,6,7,8]).bind fun _=>
 (jo y1 a).bind fun dM=>
 cond (!decide (dM.1=0))
 ((dD o).bind fun jx=>
 some (jx,dM.1))
 ((fW a).bind fun oV=>
 (cL (bo ((dM.2.aF:List cg).length+([oV]:List cg).length) 136)).bind fun _=>
 some ((⟨dM.2.world,dM.2.aY,dM.2.ba,dM.2.aN,dM.2.aK,dM.2.lines,((dM.2.aF:List cg)++[oV])⟩:aM),0))))
 (cond (decide (a.kind=6))
 ((bh [9,3,4,5,6,7,8]).bind fun _=>
 (iq y1 a).bind fun lZ=>
 cond (!decide (lZ.1=0))
 ((dD o).bind fun kS=>
 some (kS,lZ.1))
 ((fW a).bind fun o9=>
 (cL (bo ((lZ.2.aF:List cg).length+([o9]:List cg).length) 136)).bind fun _=>
 some ((⟨lZ.2.world,lZ.2.aY,lZ.2.ba,lZ.2.aN,lZ.2.aK,lZ.2.lines,((lZ.2.aF:List cg)++[o9])⟩:aM),0)))
 ((bh [9,3,4,5,6,7,8]).bind fun _=>
 (jo y1 a).bind fun ma=>
 cond (!decide (ma.1=0))
 ((dD o).bind fun ri=>
 some (ri,ma.1))
 ((fW a).bind fun sw=>
 (cL (bo ((ma.2.aF:List cg).length+([sw]:List cg).length) 136)).bind fun _=>
 some ((⟨ma.2.world,ma.2.aY,ma.2.ba,ma.2.aN,ma.2.aK,ma.2.lines,((ma.2.aF:List cg)++[sw])⟩:aM),0))))))))
instance (o:aM)(a:cg):CT Tryz.prog (fY o a):=⟨8,[.ag (lk o),.ag (ig a)],[],fun r=>.tu [.ag [.sl (r.1.world.aa.ay.map bp),.sl (r.1.world.aa.off.map aG),vi r.1.world.aa.change,.sl (r.1.world.ah.map bc),.sl (r.1.world.aq.map aB),.sl (r.1.world.ae.map aS),vi r.1.world.now,.sl (r.1.world.aH.map bt),.sl (r.1.world.skip.map aG),vi r.1.world.bd,.sl (r.1.aY.map cK),.sl (r.1.ba.map cO),.sl (r.1.aN.map aG),.sl (r.1.aK.map bS),.sl (r.1.lines.map bO),.sl (r.1.aF.map ig)],vi r.2],fun r=>[],fun H=>by replace H:=H0 H;unfold fY at H;exact aA Tryz.func8 rfl Tryz.ntmps8 Tryz.results8 fun Q hQ cR=>Mb⟩
structure PF(p:a8):Prop where
 aV:p.label.aV.size≤xl
 ar:p.ar.size≤xl
 cq:p.cq.length≤1048576
structure OF(o:aM):Prop where
 world:pY o.world
 aY:rC o.aY
 ba:o.ba.length≤1048576
 sL:o.aN.length≤1048576
 lines:o.lines.length≤1048576
 aK:o.aK.length≤1048576
 aF:o.aF.length≤1048576
 pf:∀p∈o.aK,PF p
 af:∀a∈o.aF,PF a.aT
theorem PF.fit{p:a8}(h:PF p):p.label.aV.size≤xl∧p.ar.size≤xl∧p.cq.length<NN:=⟨h.aV,h.ar,by have:=h.cq;unfold NN;omega⟩
theorem OF.fit{o:aM}(h:OF o):Zch o:=⟨h.world,h.aY,h.ba,h.sL,h.lines,h.aK,h.aF,fun p hp=>(h.pf p hp).fit,fun a ha=>(h.af a ha).fit⟩
theorem Ga{p:a8}(h:PF p):gJ p=some p:=by
 unfold gJ;rw[eR (by have:=h.cq;simpa using this) (by omega)];rfl
theorem Bq{p:a8}(h:PF p):gw p=some p:=by
 unfold gw;rw[xG h.cq];rfl
theorem Mn(h:PF a.aT):fW a=some a:=by
 unfold fW;rw[Ga h];rfl
theorem yL{xs:List α}{body:Int×List α→Option ((Int×List α)⊕List α)}(h1:∀(i:Nat) x,xs[i]?=some x→body ((i:Int),xs.take i)=some (.inl (((i+1:Nat):Int),xs.take i++[x])))
 (h2:body ((xs.length:Int),xs)=some (.inr xs)) (hN:xs.length<NN):aD body NN (0,[])=some xs:=by
 refine lp (fun i=>(((i:Nat):Int),xs.take i)) (n:=xs.length) (fun i hi=>?_) (by rw[Xo];exact h2) NN hN
 have hx:=VT hi
 rw[h1 i _ hx,List.take_add_one,hx];rfl
theorem wi{n c:Nat}(h:n≤1048576)(hc:c≤1024):cL (bo (n+([x]:List α).length) c)=some ():=pR (by unfold bo;rw[decide_eq_true_iff,show([x]:List α).length=1 from rfl];exact⟨by omega,Wq (Nat.mul_le_mul (show n+1≤1048577 by omega) hc) (by omega)⟩)
section
variable {o:aM} (h:OF o)
include h
theorem Mp:dD o=some o:=by
 have e0:∀y1 y2,aD (gP o y1 y2) NN (0,[])=some o.aK:=fun y1 y2=>by
  refine yL (fun i x hx=>?_) (by unfold gP;simp) (by have:=h.aK;unfold NN;omega)
  have bF:=(VU.1 hx).1
  have hp:=h.aK
  unfold gP
  simp only[decide_eq_true (show(i:Int)<o.aK.length by omega),cond_true,aR,hx,VS,Ga (h.pf x (VW hx)),bI bF (by omega)]
  rw[wi (by rw[V8];omega) (by omega)];rfl
 have e1:∀y1 y2 o0,aD (gQ o y1 y2 o0) NN (0,[])=some o.aF:=fun y1 y2 o0=>by
  refine yL (fun i x hx=>?_) (by unfold gQ;simp) (by have:=h.aF;unfold NN;omega)
  have bF:=(VU.1 hx).1
  have hp:=h.aF
  unfold gQ
  simp only[decide_eq_true (show(i:Int)<o.aF.length by omega),cond_true,aR,hx,VS,Mn (h.af x (VW hx)),bI bF (by omega)]
  rw[wi (by rw[V8];omega) (by omega)];rfl
 unfold dD
 show(dP o.world).bind _=_
 rw[wk h.world,VS,eR (by have:=h.aY.1;simpa using this) (by omega),VS,eR (by have:=h.ba;simpa using this) (by omega),VS,eR (by have:=h.sL;simpa using this) (by omega),VS,yO h.lines,VS,e0,VS,e1]
 rfl
theorem Mq:gu o=some o:=by
 have e0:∀y1 y2 y3,aD (jJ o y1 y2 y3) NN (0,[])=some o.aK:=fun y1 y2 y3=>by
  refine yL (fun i x hx=>?_) (by unfold jJ;simp) (by have:=h.aK;unfold NN;omega)
  have bF:=(VU.1 hx).1
  have hp:=h.aK
  unfold jJ
  simp only[decide_eq_true (show(i:Int)<o.aK.length by omega),cond_true,aR,hx,VS,Bq (h.pf x (VW hx)),bI bF (by omega)]
  rw[wi (by rw[V8];omega) (by omega)];rfl
 have e1:∀y1 y2 y3 o0,aD (jK o y1 y2 y3 o0) NN (0,[])=some o.aF:=fun y1 y2 y3 o0=>by
  refine yL (fun i x hx=>?_) (by unfold jK;simp) (by have:=h.aF;unfold NN;omega)
  have bF:=(VU.1 hx).1
  have hp:=h.aF
  unfold jK
  simp only[decide_eq_true (show(i:Int)<o.aF.length by omega),cond_true,aR,hx,VS,Bq (h.af x (VW hx)),bI bF (by omega)]
  rw[wi (by rw[V8];omega) (by omega)];rfl
 unfold gu
 show(ep o.world).bind _=_
 rw[wm h.world,VS,eR (by have:=h.aY.1;simpa using this) (by omega),VS,eR (by have:=h.ba;simpa using this) (by omega),VS,xG h.sL,VS,yP h.lines,VS,e0,VS,e1]
 rfl
end
structure Mf(o:aM)(p:a8)(x:aM):Prop where
 kJ:∃v aE ys dX,gS o.aY o.ba p=some (v,true)∧¬v=0∧Qc o.world p.ar p.label.aV p.label.ax p.ab (x.world,(o.world.ah.length:Int)+1,true) aE ys dX∧qh o.lines ((o.world.ah.length:Int)+1) v o.world.now=(x.lines,0)∧cV o.world p.ar p.label.aV p.label.ax p.ab=some (x.world,(o.world.ah.length:Int)+1,true)
 aY:x.aY=o.aY
 ba:x.ba=o.ba
 sL:x.aN=o.aN
 aK:x.aK=o.aK++[p]
 aF:x.aF=o.aF
theorem Tp(w:av)(o:az)(ys:List ao):(ya w o ys).now=w.now:=rfl
section
variable {o:aM} (h:OF o) (hv:eu o.world=true)
include h hv
theorem Pz{p:a8}(hp:PF p):∃r,oq o p=some r∧lH o p=some r∧(¬r.1=0∧r.2=o∨r.1=0∧Mf o p r.2):=by
 have hw:pL o.world:=⟨h.world,hv⟩
 obtain⟨e,v,e'⟩:=C9 h.aY h.ba hp.fit.1 hp.fit.2.1 hp.fit.2.2
 unfold oq lH
 rw[e,e',VS,VS]
 obtain⟨v,ok⟩:=v
 cases ok with
 |false=>exact⟨_,rfl,rfl,.inl ⟨by simp,rfl⟩⟩
 |true=>
 by_cases hz:v=0
 ·simp only[hz]
  exact⟨_,rfl,rfl,.inl ⟨by simp,rfl⟩⟩
 simp only[V0,cond_false,decide_eq_false hz]
 obtain⟨r,a1,a2,hr⟩:=Ao hw p.ar p.label.aV p.label.ax p.ab
 show ∃r,(fo _ _ _ _ _).bind _=_∧(cV _ _ _ _ _).bind _=_∧_
 rw[a1,a2,VS,VS]
 rcases hr with⟨rfl,_⟩ |⟨aE,ys,dX,hT⟩
 ·exact⟨_,rfl,rfl,.inl ⟨by simp,rfl⟩⟩
 have zI:=hT.res
 have CF:r.1.now=o.world.now:=by rw[zI];exact Tp _ _ _
 have hid:r.2.1=(o.world.ah.length:Int)+1:=by rw[zI]
 have ik:r.2.2=true:=by rw[zI]
 simp only[ik,V0,cond_false,hid,CF,Qx h.lines,Ij h.lines,VS,Ga hp,Bq hp]
 by_cases hc:(qh o.lines ((o.world.ah.length:Int)+1) v o.world.now).2=0
 ·rw[decide_eq_true hc,V0,cond_false,wi h.aK (by omega),VS]
  refine⟨_,rfl,rfl,.inr ⟨rfl,⟨v,aE,ys,dX,e',hz,?_,?_,?_⟩,rfl,rfl,rfl,rfl,rfl⟩⟩
  ·have:r=(r.1,(o.world.ah.length:Int)+1,true):=by rw[zI]
   rw[←this];exact hT
  ·rw[←hc]
  ·rw[a2,zI]
 ·rw[decide_eq_false hc]
  exact⟨_,rfl,rfl,.inl ⟨by simp,rfl⟩⟩
def HU(o:aM)(a:cg)(x:aM):Prop:=∃l y,x=⟨o.world,o.aY,o.ba,o.aN,o.aK,l,o.aF⟩∧1≤a.order∧aC o.world.ah (a.order-1)=some y∧
 (¬a.kind=6∧Em o.lines a.order a.bz o.world.now=(l,0)∨a.kind=6∧y.state=3∧oS o.lines a.order y.dX y.bD o.aN o.world.now=(l,0))
theorem Lj(hl:o.aK.length=o.world.ah.length)(h1:1≤a.order):∃r,iq o a=some r∧iN o a=some r∧(¬r.1=0∧r.2=o∨r.1=0∧HU o a r.2):=by
 have ho:=h.world.ah
 unfold iq iN
 rw[dt,hl,VS]
 by_cases h2:(o.world.ah.length:Int)<a.order
 ·rw[decide_eq_true h2,decide_eq_false (show ¬a.order≤(o.world.ah.length:Int)by omega),Bool.and_false]
  exact⟨_,rfl,rfl,.inl ⟨by simp,rfl⟩⟩
 have hw:aL (a.order-1)=a.order-1:=aQ (by omega)
 obtain⟨y,hy⟩:∃y,aC o.world.ah (a.order-1)=some y:=by
  obtain⟨k,hk⟩:∃k:Nat,a.order-1=(k:Int):=⟨(a.order-1).toNat,by omega⟩
  rw[hk,aR]
  exact⟨_,VT (show k<o.world.ah.length by omega)⟩
 rw[decide_eq_false h2,decide_eq_true h1,decide_eq_true (show a.order≤(o.world.ah.length:Int)by omega)]
 simp only[W8,V0,cond_false,hw,hy,VS,Zax h.lines,Sc h.lines,JP h.lines h.sL,JQ h.lines h.sL]
 by_cases hk:a.kind=6
 ·simp only[decide_eq_true hk,cond_true]
  by_cases hs:y.state=3
  ·simp only[decide_eq_true hs,V0,cond_false]
   by_cases hc:(oS o.lines a.order y.dX y.bD o.aN o.world.now).2=0
   ·simp only[decide_eq_true hc,V0,cond_false]
    exact⟨_,rfl,rfl,.inr ⟨rfl,_,y,rfl,h1,hy,.inr ⟨hk,hs,by rw[←hc]⟩⟩⟩
   ·simp only[decide_eq_false hc]
    exact⟨_,rfl,rfl,.inl ⟨by simp,rfl⟩⟩
  ·simp only[decide_eq_false hs]
   exact⟨_,rfl,rfl,.inl ⟨by simp,rfl⟩⟩
 ·simp only[decide_eq_false hk,cond_false]
  by_cases hc:(Em o.lines a.order a.bz o.world.now).2=0
  ·simp only[decide_eq_true hc,V0,cond_false]
   exact⟨_,rfl,rfl,.inr ⟨rfl,_,y,rfl,h1,hy,.inl ⟨hk,by rw[←hc]⟩⟩⟩
  ·simp only[decide_eq_false hc]
   exact⟨_,rfl,rfl,.inl ⟨by simp,rfl⟩⟩
def BJ(o:aM)(a:cg)(x:aM):Prop:=∃w,x=⟨w,o.aY,o.ba,o.aN,o.aK,o.lines,o.aF⟩∧
 (a.kind=3∧o.world.now<a.bH∧w=D0 o.world a.bH∨a.kind=4∧cP o.world a.bf=some (w,true)∧Shut o.world a.bf w∨a.kind=5∧∃n:Nat,¬n=0∧cF o.world=some (w,(n:Int))∧Bl o.world w n)
theorem OO(hk:a.kind=3∧a.bH≤100000∨a.kind=4∨a.kind=5):∃r,jo o a=some r∧(¬r.1=0∧r.2=o∨r.1=0∧BJ o a r.2)∧
 (cond (decide (a.kind=3)) (cond (decide (a.bH≤o.world.now)) (some (6,o)) ((ll 8 []).bind fun _=>(db o.world a.bH).bind fun y3=>some (0,(⟨y3,o.aY,o.ba,o.aN,o.aK,o.lines,o.aF⟩:aM))))
  (cond (decide (a.kind=4)) ((ll 8 []).bind fun _=>(cP o.world a.bf).bind fun y4=>cond (!y4.2) (some (6,o)) (some (0,(⟨y4.1,o.aY,o.ba,o.aN,o.aK,o.lines,o.aF⟩:aM))))
  ((cF o.world).bind fun y5=>cond (decide (y5.2=0)) (some (6,o)) (some (0,(⟨y5.1,o.aY,o.ba,o.aN,o.aK,o.lines,o.aF⟩:aM))))):Option (Int×aM))=some r:=by
 have hw:pL o.world:=⟨h.world,hv⟩
 unfold jo
 rcases hk with⟨hk,hu⟩ |hk|hk
 ·simp only[hk,decide_true,cond_true]
  by_cases hc:a.bH≤o.world.now
  ·simp only[decide_eq_true hc,cond_true]
   exact⟨_,rfl,.inl ⟨by simp,rfl⟩,rfl⟩
  ·have hif:eu o.world=true∧o.world.now≤a.bH∧a.bH≤100000:=⟨hv,by omega,hu⟩
   simp only[decide_eq_false hc,cond_false,NT h.world,if_pos hif,VS]
   refine⟨_,rfl,.inr ⟨rfl,_,rfl,.inl ⟨hk,by omega,rfl⟩⟩,?_⟩
   show(db o.world a.bH).bind _=_
   rw[zp h.world,if_pos hif];rfl
 ·simp only[hk,show decide ((4:Int)=3)=false from rfl,decide_true,cond_true,cond_false]
  obtain⟨r,e1,e2,hr⟩:=Ah hw a.bf
  rw[e1,VS]
  rcases hr with rfl|⟨x,rfl,hS⟩
  ·refine⟨_,rfl,.inl ⟨by simp,rfl⟩,?_⟩
   show(cP o.world a.bf).bind _=_
   rw[e2];rfl
  ·refine⟨_,rfl,.inr ⟨rfl,_,rfl,.inr (.inl ⟨hk,e2,hS⟩)⟩,?_⟩
   show(cP o.world a.bf).bind _=_
   rw[e2];rfl
 ·simp only[hk,show decide ((5:Int)=3)=false from rfl,show decide ((5:Int)=4)=false from rfl,decide_true,cond_true,cond_false]
  obtain⟨x,n,e1,e2,hR⟩:=Dn hw
  have yq:=e2
  rw[e1,yq]
  simp only[VS]
  by_cases hn:n=0
  ·subst hn
   exact⟨_,rfl,.inl ⟨by simp,rfl⟩,rfl⟩
  ·simp only[decide_eq_false (show ¬((n:Int)=0)by omega),cond_false]
   exact⟨_,rfl,.inr ⟨rfl,_,rfl,.inr (.inr ⟨hk,n,hn,e2,hR⟩)⟩,rfl⟩
end
theorem JW{ρ:List Nat}{f:Unit→Option α}:(bh ρ).bind f=f ():=rfl
theorem BP(h1:a.aT.label.aV.size≤xl)(h2:a.aT.ar.size≤xl)(h3:a.aT.cq.length<NN)(h:gH a=some true):
 (a.kind=1∨(a.kind=2∨a.kind=6)∧1≤a.order∨(a.kind=3∧a.bH≤100000∨a.kind=4∨a.kind=5)):=by
 obtain⟨e1,b1,uY⟩:=wK h1 h2 h3
 unfold gH at h
 simp only[mP,fV,e1,uY,dt,VS]at h
 by_cases k1:a.kind=1
 ·exact .inl k1
 by_cases k2:a.kind=2
 ·simp only[k2,Yo,decide_true,decide_false,cond_true,cond_false,Qp,VS,bl]at h
  cases ha:(decide (1≤a.order)&&decide (a.order≤9999))<;>rw[ha]at h
  ·cases h
  ·simp at ha;exact .inr (.inl ⟨.inl k2,ha.1⟩)
 by_cases k3:a.kind=3
 ·simp only[k3,Yo,decide_true,decide_false,cond_true,cond_false,Qp,VS,bl]at h
  cases ha:(decide (0≤a.bH)&&decide (a.bH≤100000))<;>rw[ha]at h
  ·cases h
  ·simp at ha;exact .inr (.inr (.inl ⟨k3,ha.2⟩))
 by_cases k4:a.kind=4
 ·exact .inr (.inr (.inr (.inl k4)))
 by_cases k5:a.kind=5
 ·exact .inr (.inr (.inr (.inr k5)))
 by_cases k6:a.kind=6
 ·simp only[k6,Yo,decide_true,decide_false,cond_true,cond_false,Qp,VS,bl]at h
  cases ha:(decide (1≤a.order)&&decide (a.order≤9999))<;>rw[ha]at h
  ·cases h
  ·simp at ha;exact .inr (.inl ⟨.inr k6,ha.1⟩)
 ·simp only[k1,k2,k3,k4,k5,k6,decide_false,cond_false,VS,bl]at h
  cases h
theorem ni{o:aM}(h:jw o=true):eu o.world=true∧rM o.aY=true∧rL o.ba (o.aY.length:Int)=true∧mT o.aN=true∧dC (o.lines.map bK)=true∧o.aK.length=o.world.ah.length∧o.aF.length≤150∧allI (mf o) 0 o.aK=true∧allI (tb o) 0 o.lines=true∧allI BO 0 o.aF=true:=by
 unfold jw at h
 simp only[VZ,decide_eq_true_eq,Wa,decide_eq_false_iff_not]at h
 obtain⟨a,b,c,d,e,f,g,i,j,k⟩:=h
 exact⟨a,b,c,d,e,by omega,by omega,i,j,k⟩
theorem ub{o:aM}(a:eu o.world=true)(b:rM o.aY=true)(c:rL o.ba (o.aY.length:Int)=true)(d:mT o.aN=true)(e:dC (o.lines.map bK)=true)(f:o.aK.length=o.world.ah.length)(g:o.aF.length≤150)(i:allI (mf o) 0 o.aK=true)(j:allI (tb o) 0 o.lines=true)(k:allI BO 0 o.aF=true):jw o=true:=by
 unfold jw
 rw[a,b,c,d,e,i,j,k,decide_eq_true (show(o.aK.length:Int)=(o.world.ah.length:Int)by omega),decide_eq_false (show ¬150<(o.aF.length:Int)by omega)]
 rfl
def uT(y:aM)(j:List cg):aM:=⟨y.world,y.aY,y.ba,y.aN,y.aK,y.lines,j⟩
structure ZaD(o:aM)(a:cg)(x:aM):Prop where
 ok:jw o=true
 act:gH a=some true
 few:o.aF.length<150
 how:∃y,x=uT y (o.aF++[a])∧(a.kind=1∧Mf o a.aT y∨(a.kind=2∨a.kind=6)∧HU o a y∨(a.kind=3∨a.kind=4∨a.kind=5)∧BJ o a y)
theorem MF{o:aM}(h:OF o)(ha:PF a.aT):∃x c,fY o a=some (x,c)∧mr o a=some (x,c)∧(¬c=0∧x=o∨c=0∧ZaD o a x):=by
 obtain⟨b,b1,b2⟩:=FY ha.fit.1 ha.fit.2.1 ha.fit.2.2
 unfold fY mr
 simp only[Mp h,Mq h,AE h.fit,AU h.fit,b1,b2,VS,JW]
 cases hv:jw o with
 |false=>exact⟨_,_,rfl,rfl,.inl ⟨by simp,rfl⟩⟩
 |true=>
 cases b with
 |false=>exact⟨_,_,rfl,rfl,.inl ⟨by simp,rfl⟩⟩
 |true=>
 by_cases hj:150≤o.aF.length
 ·rw[decide_eq_true (show(150:Int)≤o.aF.length by omega)]
  exact⟨_,_,rfl,rfl,.inl ⟨by simp,rfl⟩⟩
 rw[decide_eq_false (show ¬(150:Int)≤o.aF.length by omega)]
 simp only[V0,cond_false,Mn ha,Bq ha,VS]
 have hp:=ni hv
 have fin:∀{r:Int×aM} {Q:aM→Prop},(¬r.1=0∧r.2=o∨r.1=0∧Q r.2)→(∀y,Q y→y.aF=o.aF)→(∀y,Q y→(a.kind=1∧Mf o a.aT y∨(a.kind=2∨a.kind=6)∧HU o a y∨(a.kind=3∨a.kind=4∨a.kind=5)∧BJ o a y))→
  ∃x c,(cond (!decide (r.1=0)) (some (o,r.1)) ((cL (bo ((r.2.aF:List cg).length+([a]:List cg).length) 136)).bind fun _=>some (uT r.2 (r.2.aF++[a]),0)))=some (x,c)∧
   (cond (!decide (r.1=0)) (some (o,r.1)) ((cL (bo ((r.2.aF:List cg).length+([a]:List cg).length) 136)).bind fun _=>some (uT r.2 (r.2.aF++[a]),r.1)))=some (x,c)∧(¬c=0∧x=o∨c=0∧ZaD o a x):=fun {r Q} hr hQ hD=>by
  rcases hr with⟨hc,_⟩ |⟨hc,hq⟩
  ·rw[decide_eq_false hc]
   exact⟨_,_,rfl,rfl,.inl ⟨hc,rfl⟩⟩
  ·rw[decide_eq_true hc,hQ _ hq,wi (by omega) (by omega),hc]
   exact⟨_,_,rfl,rfl,.inr ⟨rfl,hv,b1,by omega,r.2,rfl,hD _ hq⟩⟩
 rcases BP ha.fit.1 ha.fit.2.1 ha.fit.2.2 b1 with hk|⟨hk,ho⟩ |hk
 ·obtain⟨r,e1,e2,hr⟩:=Pz h hp.1 ha
  unfold kX
  simp only[decide_eq_true hk,cond_true,e1,e2,VS,JW]
  exact fin hr (fun y hy=>hy.aF) fun y hy=>.inl ⟨hk,hy⟩
 ·obtain⟨r,e1,e2,hr⟩:=Lj h hp.1 hp.2.2.2.2.2.1 ho
  have hq:=fin hr (fun y hy=>by obtain⟨l,z,rfl,_⟩:=hy;rfl) fun y hy=>.inr (.inl ⟨hk,hy⟩)
  unfold kX
  rcases hk with hk|hk
  ·simp only[decide_eq_false (show ¬a.kind=1 by omega),decide_eq_true hk,cond_true,cond_false,e1,e2,VS,JW]
   exact hq
  ·simp only[decide_eq_false (show ¬a.kind=1 by omega),decide_eq_false (show ¬a.kind=2 by omega),decide_eq_true hk,cond_true,cond_false,e1,e2,VS,JW]
   exact hq
 ·obtain⟨r,e1,hr,e2⟩:=OO h hp.1 hk
  have hk':a.kind=3∨a.kind=4∨a.kind=5:=by omega
  have hq:=fin hr (fun y hy=>by obtain⟨w,rfl,_⟩:=hy;rfl) fun y hy=>.inr (.inr ⟨hk',hy⟩)
  unfold kX
  rw[e2]
  rw[decide_eq_false (show ¬a.kind=1 by omega),decide_eq_false (show ¬a.kind=2 by omega),decide_eq_false (show ¬a.kind=6 by omega)]
  simp only[cond_false,e1,VS]
  exact hq
theorem vY{c:Nat→α→Bool}{xs:List α}(h:allI c 0 xs=true)(hx:c xs.length x=true):allI c 0 (xs++[x])=true:=by
 rw[cJ]at h⊢
 intro j y hy
 rcases WB j xs.length with hj|hj
 ·rw[Wd hj]at hy;exact h j y hy
 ·rw[We hj]at hy
  have:j-xs.length=0:=by have:=(VU.1 hy).1;simp only[VX,VY]at this;omega
  rw[this]at hy
  obtain rfl:=VV hy
  rw[show 0+j=xs.length by omega];exact hx
def SH(z z':az):Prop:=z'.ar=z.ar∧z'.aV=z.aV∧z'.ax=z.ax∧z'.ab=z.ab
theorem uv{o y:aM}{i:Nat}{p:a8}(hz:y.aY=o.aY)(hr:y.ba=o.ba)(hs:cn (y.lines.map bK) (((i+1:Nat):Int)) 1=cn (o.lines.map bK) (((i+1:Nat):Int)) 1)
 (ho:∀z,o.world.ah[i]?=some z→∃z',y.world.ah[i]?=some z'∧SH z z') (h:mf o i p=true):mf y i p=true:=by
 unfold mf at h⊢
 rw[hz,hr]
 cases hi:o.world.ah[i]? with
 |none=>rw[hi]at h;cases h
 |some z=>
  obtain⟨z',e,e1,e2,e3,e4⟩:=ho z hi
  rw[hi]at h
  rw[e]
  rw[uu]at h⊢
  rw[e1,e2,e3,e4,hs];exact h
structure Zcg(w w':av):Prop where
 ok:pL w'
 now:w.now≤w'.now
 len:w'.ah.length=w.ah.length
 ey:w'.aa=w.aa
 ord:∀(i:Nat) (z:az),w.ah[i]?=some z→∃z',w'.ah[i]?=some z'∧SH z z'
theorem Ft{n:aj}{z z':az}(h:qW n z z'):SH z z':=by
 rcases h with rfl|⟨more,_,rfl⟩<;>exact⟨rfl,rfl,rfl,rfl⟩
theorem Lk{o x:aM}(hw:pL o.world)(hu:a.kind=3→a.bH≤100000)(h:BJ o a x):Zcg o.world x.world:=by
 obtain⟨w,rfl,h⟩:=h
 rcases h with⟨hk,hn,rfl⟩ |⟨_,_,hS⟩ |⟨_,n,_,_,hR⟩
 ·obtain⟨a1,a2,_⟩:=KF hw (Int.le_of_lt hn) (hu hk)
  refine⟨a1,Int.le_of_lt hn,a2.len,a2.aa,fun i z hz=>?_⟩
  have hi:=(VU.1 hz).1
  have tT:=VT (show i<(D0 o.world a.bH).ah.length by rw[a2.len];exact hi)
  have hs:=a2.ord i z _ hz tT
  exact⟨_,tT,hs.ar,hs.aV,hs.ax,hs.ab⟩
 ·exact⟨hS.ok,by rw[hS.same.now];exact Wv _,hS.same.len,hS.same.aa,fun i z hz=>by
   obtain⟨z',b1,_,b2⟩:=hS.ord i z hz
   exact⟨z',b1,Ft b2⟩⟩
 ·exact⟨hR.ok,by rw[hR.same.now];exact Wv _,hR.same.len,hR.same.aa,fun i z hz=>by
   obtain⟨z',b1,b2,_⟩:=hR.ord i z hz
   exact⟨z',b1,Ft b2⟩⟩
theorem zL{o y:aM}(hp:o.aK.length≤y.aK.length)(hn:o.world.now≤y.world.now)(h:allI (tb o) 0 o.lines=true):allI (tb y) 0 o.lines=true:=by
 rw[cJ]at h⊢
 intro j x hx
 have:=h j x hx
 unfold tb at this⊢
 simp only[VZ,Wa,decide_eq_false_iff_not]at this⊢
 omega
theorem Zcm(ha:PF a.aT)(h:gH a=some true)(i:Nat):BO i a=true:=by
 obtain⟨b,b1,b2⟩:=FY ha.fit.1 ha.fit.2.1 ha.fit.2.2
 rw[h]at b1
 unfold BO
 rw[b2,←VV b1];rfl
theorem BC{l:List aW}{x:aW}{l':List aW}(h:tk l x=(l',0)):l'=l++[x]∧dC ((l++[x]).map bK)=true∧l.length<200:=by
 unfold tk at h
 split at h
 ·simp at h
 ·split at h
  ·rename_i h1 h2
   simp only[Prod.mk.injEq,and_true]at h
   exact⟨h.symm,h2,by omega⟩
  ·simp at h
theorem ZbF{l l':List aW}{o a t:Int}(h:Em l o a t=(l',0)):tk l ⟨o,2,a,t⟩=(l',0)∧¬uc (l.map bK) o<a∧dC (l.map bK)=true:=by
 unfold Em at h
 split at h;· simp at h
 split at h;· simp at h
 split at h;· simp at h
 split at h;· simp at h
 rename_i h1 _ _ h2
 exact⟨h,by simpa using h2,by simpa using h1⟩
theorem N1{l l':List aW}{o a t:Int}(h:qh l o a t=(l',0)):tk l ⟨o,1,a,t⟩=(l',0)∧cn (l.map bK) o 1=0∧(1≤a∧a≤100000)∧dC (l.map bK)=true:=by
 unfold qh at h
 split at h;· simp at h
 split at h;· simp at h
 split at h;· simp at h
 rename_i h1 h2 h3
 have h1:dC (l.map bK)=true:=by simpa using h1
 have h3:¬0<cn (l.map bK) o 1:=by simpa using h3
 have h2:np o 1 a t=true:=by simpa using h2
 exact⟨h,by have:=(S1 h1 o 1).1;omega,zr (x:=⟨o,1,a,t⟩) h2,h1⟩
theorem Fq{l l':List aW}{o du en t:Int}{ps:List Int}(h:oS l o du en ps t=(l',0)):tk l ⟨o,3,jS (cn (l.map bK) o 1) du en ps,t⟩=(l',0)∧dC (l.map bK)=true:=by
 unfold oS at h
 split at h;· simp at h
 split at h;· simp at h
 split at h;· simp at h
 split at h;· simp at h
 split at h;· simp at h
 split at h;· simp at h
 split at h;· simp at h
 split at h;· simp at h
 rename_i h1 _ _ _ _ _ _ _
 exact⟨h,by simpa using h1⟩
theorem tZ(l:List aW)(x:aW):(l++[x]).map bK=l.map bK++[bK x]:=by rw[Xq];rfl
theorem O1{o x:aM}(h:HU o a x):∃z:aW,x=⟨o.world,o.aY,o.ba,o.aN,o.aK,o.lines++[z],o.aF⟩∧z.order=a.order∧¬z.kind=1∧z.aO=o.world.now∧dC ((o.lines++[z]).map bK)=true∧o.lines.length<200∧1≤a.order∧a.order≤o.world.ah.length:=by
 obtain⟨l,y,rfl,h1,hy,h⟩:=h
 have bF:a.order≤o.world.ah.length:=by have:=(iH hy).1;have:=(VU.1 (iH hy).2).1;omega
 rcases h with⟨_,h⟩ |⟨_,_,h⟩
 ·obtain⟨rfl,b,c⟩:=BC (ZbF h).1
  exact⟨_,rfl,rfl,by simp,rfl,b,c,h1,bF⟩
 ·obtain⟨rfl,b,c⟩:=BC (Fq h).1
  exact⟨_,rfl,rfl,by simp,rfl,b,c,h1,bF⟩
theorem DP{o:aM}(ha:PF a.aT)(hc:gH a=some true){y:aM}(hy:OF y)(hv:jw y=true)(hj:y.aF=o.aF)(hf:o.aF.length<150):OF (uT y (o.aF++[a]))∧jw (uT y (o.aF++[a]))=true:=by
 obtain⟨p1,p2,p3,p4,p5,p6,p7,p8,p9,p10⟩:=ni hv
 refine⟨⟨hy.world,hy.aY,hy.ba,hy.sL,hy.lines,hy.aK,?_,hy.pf,fun b hb=>?_⟩,ub p1 p2 p3 p4 p5 p6 ?_ p8 p9 ?_⟩
 ·show(o.aF++[a]).length≤_
  rw[V2];simp only[VX,VY];omega
 ·have hb:b∈o.aF++[a]:=hb
  rcases WC.1 hb with hb|hb
  ·exact hy.af b (by rw[hj];exact hb)
  ·rw[Wc.1 hb];exact ha
 ·show(o.aF++[a]).length≤_
  rw[V2];simp only[VX,VY];omega
 ·rw[hj]at p10
  exact vY p10 (Zcm ha hc _)
theorem RZ{o y:aM}(h:OF o)(hv:jw o=true)(hu:a.kind=3→a.bH≤100000)(hm:BJ o a y):OF y∧jw y=true:=by
 obtain⟨p1,p2,p3,p4,p5,p6,p7,p8,p9,p10⟩:=ni hv
 have hk:=Lk ⟨h.world,p1⟩ hu hm
 obtain⟨w,rfl,_⟩:=hm
 refine⟨⟨hk.ok.fit,h.aY,h.ba,h.sL,h.lines,h.aK,h.aF,h.pf,h.af⟩,ub hk.ok.ok p2 p3 p4 p5 (p6.trans hk.len.symm) p7 ?_ (zL (o:=o) (y:=⟨w,o.aY,o.ba,o.aN,o.aK,o.lines,o.aF⟩) (V3 _) hk.now p9) p10⟩
 rw[cJ]at p8⊢
 exact fun j p hp=>uv (o:=o) rfl rfl rfl (hk.ord _) (p8 j p hp)
theorem U7{o y:aM}(h:OF o)(hv:jw o=true)(hm:HU o a y):OF y∧jw y=true:=by
 obtain⟨p1,p2,p3,p4,p5,p6,p7,p8,p9,p10⟩:=ni hv
 obtain⟨z,rfl,z1,z2,z3,z4,z5,z6,z7⟩:=O1 hm
 refine⟨⟨h.world,h.aY,h.ba,h.sL,?_,h.aK,h.aF,h.pf,h.af⟩,ub p1 p2 p3 p4 z4 p6 p7 ?_ (vY (zL (o:=o) (y:=⟨o.world,o.aY,o.ba,o.aN,o.aK,o.lines++[z],o.aF⟩) (V3 _) (Wv _) p9) ?_) p10⟩
 ·show(o.lines++[z]).length≤_
  rw[V2];simp only[VX,VY];omega
 ·rw[cJ]at p8⊢
  refine fun j p hp=>uv (o:=o) rfl rfl ?_ (fun z hz=>⟨z,hz,rfl,rfl,rfl,rfl⟩) (p8 j p hp)
  rw[tZ]
  exact FG fun hh=>z2 hh.2
 ·unfold tb
  simp only[VZ,Wa,decide_eq_false_iff_not]
  omega
theorem VO{o y:aM}{p:a8}(h:OF o)(hv:jw o=true)(hp:PF p)(hm:Mf o p y):OF y∧jw y=true:=by
 obtain⟨p1,p2,p3,p4,p5,p6,p7,p8,p9,p10⟩:=ni hv
 obtain⟨v,aE,ys,dX,q1,q2,q3,q4,_⟩:=hm.kJ
 have hw:pL o.world:=⟨h.world,p1⟩
 have hpr:=hw.parts
 have zI:y.world=ya o.world (mI o.world p.ar p.label.aV p.label.ax p.ab dX aE) ys:=congrArg (·.1) q3.res
 have Zbh:y.world.ah=o.world.ah++[mI o.world p.ar p.label.aV p.label.ax p.ab dX aE]:=by rw[zI];rfl
 have CF:y.world.now=o.world.now:=by rw[zI];rfl
 have ik:pL y.world:=by rw[zI];exact q3.ok
 obtain⟨c1,c2,c3,c4⟩:=N1 q4
 obtain⟨d1,d2,d3⟩:=BC c1
 have hl:y.aK.length=o.aK.length+1:=by rw[hm.aK,V2];rfl
 have zG:=h.aK
 refine⟨⟨ik.fit,by rw[hm.aY];exact h.aY,by rw[hm.ba];exact h.ba,by rw[hm.sL];exact h.sL,?_,by omega,by rw[hm.aF];exact h.aF,fun q hq=>?_,by rw[hm.aF];exact h.af⟩,ub ik.ok (by rw[hm.aY];exact p2) (by rw[hm.aY,hm.ba];exact p3) (by rw[hm.sL];exact p4) (by rw[d1];exact d2) ?_ (by rw[hm.aF];exact p7) ?_ ?_ (by rw[hm.aF];exact p10)⟩
 ·rw[d1,V2];simp only[VX,VY];omega
 ·rw[hm.aK]at hq
  rcases WC.1 hq with hq|hq
  ·exact h.pf q hq
  ·rw[Wc.1 hq];exact hp
 ·rw[hl,Zbh,V2,p6];rfl
 ·rw[hm.aK]
  refine vY ?_ ?_
  ·rw[cJ]at p8⊢
   intro j q hq
   have hj:=(VU.1 hq).1
   refine uv hm.aY hm.ba ?_ (fun z hz=>⟨z,?_,rfl,rfl,rfl,rfl⟩) (p8 j q hq)
   ·rw[d1,tZ]
    refine FG fun hh=>?_
    have:=hh.1
    simp only[bK]at this
    omega
   ·rw[Zbh,Wd (VU.1 hz).1];exact hz
  ·unfold mf
   rw[hm.aY,hm.ba,q1,Zbh,p6,We (V3 _),Nat.sub_self]
   show Cg y _ p _ (some _)=true
   have hs:cn (o.lines.map bK++[bK (⟨(o.world.ah.length:Int)+1,1,v,o.world.now⟩:aW)]) (((o.world.ah.length+1:Nat):Int)) 1=v:=by
    rw[show(((o.world.ah.length+1:Nat):Int))=(o.world.ah.length:Int)+1 by omega,Kb (o:=(o.world.ah.length:Int)+1) (k:=1) (x:=bK (⟨(o.world.ah.length:Int)+1,1,v,o.world.now⟩:aW)) rfl rfl,c2]
    show wrap64 (0+v)=v
    rw[←oG,aQ (by omega)];omega
   rw[uu,d1,tZ,hs]
   simp[mI]
 ·rw[d1]
  refine vY (zL (by omega) (by omega) p9) ?_
  unfold tb
  simp only[VZ,Wa,decide_eq_false_iff_not]
  omega
theorem MG{o x:aM}(h:OF o)(ha:PF a.aT)(hd:ZaD o a x):OF x∧jw x=true:=by
 obtain⟨y,rfl,hy⟩:=hd.how
 have hu:a.kind=3→a.bH≤100000:=fun hk=>by
  have:=BP ha.fit.1 ha.fit.2.1 ha.fit.2.2 hd.act
  omega
 rcases hy with⟨_,hy⟩ |⟨_,hy⟩ |⟨_,hy⟩
 ·obtain⟨b1,b2⟩:=VO h hd.ok ha hy
  exact DP ha hd.act b1 b2 hy.aF hd.few
 ·obtain⟨b1,b2⟩:=U7 h hd.ok hy
  exact DP ha hd.act b1 b2 (by obtain⟨l,z,rfl,_⟩:=hy;rfl) hd.few
 ·obtain⟨b1,b2⟩:=RZ h hd.ok hu hy
  exact DP ha hd.act b1 b2 (by obtain⟨w,rfl,_⟩:=hy;rfl) hd.few
section
variable {n:aj} (hf:cI n) (hn:aU n=some true) {l:List ao} (hl:l.length≤1000) (hw:∀b∈l,1≤b.ab∧b.ab≤1000000) {ae:List au} (hc:ae.length≤1048576) (ab:Int)
def NL(n:aj)(l:List ao)(ae:List au)(ab:Int)(t:au):Prop:=ct ae t=false∧∀y,aC n.ay t.bx=some y→ab≤y.fy-gG l t
include hf hn hl hw hc
theorem R5{bx d0 z:Int}(ht:et n ⟨bx,d0⟩=true)(hz:z≤cd n ⟨bx,d0⟩)(ha:NL n l ae ab ⟨bx,d0⟩):∃d,cz n l ae bx z ab=some d∧0≤d∧d≤d0∧et n ⟨bx,d⟩=true:=by
 obtain⟨d1,d2⟩:=zh ht
 simp only at d1 d2
 obtain⟨y,hy,MS⟩:=dG hf ht
 have PS:=(tj hf hn y MS).fy
 have Uz:∀t,aL (y.fy-gG l t)=y.fy-gG l t:=fun t=>by
  have:=rv hw t
  exact aQ (by omega)
 have qD:∀t,df ae t=some (ct ae t):=fun t=>by
  rw[fP,fC hc];rfl
 have xd:∀s:Int,0≤s→s≤60→cf n l ae bx z ab s=some (if et n ⟨bx,s⟩=true∧z≤cd n ⟨bx,s⟩∧ct ae ⟨bx,s⟩=false∧ab≤y.fy-gG l ⟨bx,s⟩then .inr (.inr s)else .inl (s+1)):=fun s s0 s1=>by
  have hws:aL (s+1)=s+1:=aQ (by omega)
  have hr:=tl hf ⟨bx,s⟩
  simp only at hr
  unfold cf
  rw[decide_eq_true s1,cond_true,hr,VS,hws]
  cases hb:et n ⟨bx,s⟩with
  |false=>simp
  |true=>
  obtain⟨t1,_⟩:=cH hf hn hb
  simp only[cond_true,t1,VS,qD,hy,zM hl hw,Uz,true_and]
  by_cases h:z≤cd n ⟨bx,s⟩
  case neg=>rw[decide_eq_false h,if_neg fun x=>h x.1];rfl
  rw[decide_eq_true h]
  cases hcb:ct ae ⟨bx,s⟩with
  |true=>rw[if_neg fun x=>by cases x.2.1];rfl
  |false=>
  by_cases h2:ab≤y.fy-gG l ⟨bx,s⟩
  ·rw[decide_eq_true h2,if_pos ⟨h,rfl,h2⟩];rfl
  ·rw[decide_eq_false h2,if_neg fun x=>h2 x.2.2];rfl
 have key:∀(k:Nat) (s:Int),0≤s→s+(k:Int)=d0→∀N,k<N→∃d,aD (cf n l ae bx z ab) N s=some (.inr d)∧s≤d∧d≤d0∧et n ⟨bx,d⟩=true:=by
  intro k
  induction k with
  |zero=>
   intro s s0 hs N hN
   obtain⟨N,rfl⟩:∃M,N=M+1:=⟨N-1,by omega⟩
   obtain rfl:s=d0:=by omega
   refine⟨s,?_,Wv _,Wv _,ht⟩
   unfold aD
   rw[xd s s0 d2,if_pos ⟨ht,hz,ha.1,ha.2 y hy⟩]
   rfl
  |succ k ih=>
   intro s s0 hs N hN
   obtain⟨N,rfl⟩:∃M,N=M+1:=⟨N-1,by omega⟩
   unfold aD
   rw[xd s s0 (by omega)]
   by_cases h:et n ⟨bx,s⟩=true∧z≤cd n ⟨bx,s⟩∧ct ae ⟨bx,s⟩=false∧ab≤y.fy-gG l ⟨bx,s⟩
   ·rw[if_pos h]
    exact⟨s,rfl,Wv _,by omega,h.1⟩
   ·rw[if_neg h]
    obtain⟨d,e1,e2,e3,e4⟩:=ih (s+1) (by omega) (by omega) N (by omega)
    exact⟨d,e1,by omega,e3,e4⟩
 obtain⟨d,e1,e2,e3,e4⟩:=key d0.toNat 0 (by omega) (by omega) NN (by unfold NN;omega)
 refine⟨d,?_,e2,e3,e4⟩
 unfold cz
 rw[e1]
 rfl
theorem SY{f aO:Int}{u:Int}{t:au}(ht:et n t=true)(ha:NL n l ae ab t)(hle:qc (bP n l ae ab f aO k) (bb (ak n) (jc n t)) u)(hu:(if bb (ak n) (jc n t)=f then u else u+n.change)≤cd n t):
 qc (bP n l ae ab f aO (k+1)) (bb (ak n) (bU n t)) (cS n t):=by
 obtain⟨y,hy,MS⟩:=dG hf ht
 have f1:jc n t=y.ar:=by unfold jc;rw[hy];rfl
 have f2:bU n t=y.aV:=by unfold bU;rw[hy];rfl
 obtain⟨n0,n1⟩:=gm hn
 obtain⟨_,_,_,t4,t5⟩:=cH hf hn ht
 rw[f1]at hle hu
 rw[f2]
 obtain⟨v,v1,v2,v3⟩:=hle
 have Uy:u≤cd n t:=by split at hu<;>omega
 obtain⟨i0,hi⟩:=iH hy
 have hz:cN n v (decide (bb (ak n) y.ar=f))=some (if bb (ak n) y.ar=f then v else v+n.change):=by
  unfold cN
  by_cases h:bb (ak n) y.ar=f
  ·rw[decide_eq_true h,if_pos h];rfl
  ·rw[decide_eq_false h,if_neg h,cond_false,aQ (by omega)]
 have uZ:(if bb (ak n) y.ar=f then v else v+n.change)≤cd n ⟨t.bx,t.day⟩:=by
  show _≤cd n t
  split at hu<;>split<;>omega
 obtain⟨d,e1,e2,e3,e4⟩:=R5 hf hn hl hw hc ab (bx:=t.bx) (d0:=t.day) ht uZ ha
 obtain⟨_,q2,_⟩:=cH hf hn e4
 have bF:t.bx=((t.bx.toNat:Nat):Int):=by omega
 have Rf:u7 n l ae ab f (bP n l ae ab f aO k) (bb (ak n) y.aV) (cS n ⟨t.bx,d⟩):=by
  refine⟨t.bx.toNat,y,d,v,_,hi,rfl,v1,by omega,hz,?_,by omega,?_⟩
  ·rw[←bF];exact e1
  ·rw[←bF];exact q2
 obtain⟨x,x1,x2,x3⟩:=(uq hf hn (l:=l) (by omega) (ae:=ae) hc ab f aO k).2 _ _ Rf
 refine⟨x,x1,x2,?_⟩
 have g1:=(wR hf hn ht hy).2
 have g2:=(wR hf hn e4 hy).2
 simp only at g2
 omega
theorem Ez{f aO:Int}:∀(aE:List au) (p:ByteArray) (z u:Int) (k:Nat),gy n p z aE→(∀t∈aE,NL n l ae ab t)→qc (bP n l ae ab f aO k) (bb (ak n) p) u→(if bb (ak n) p=f then u else u+n.change)≤z→
 ∀t,aE.getLast?=some t→qc (bP n l ae ab f aO (k+aE.length)) (bb (ak n) (bU n t)) (cS n t)
 | [],p,z,u,k,_,_,_,_,t,ht=>by simp at ht
 |x::aE,p,z,u,k,zl,ha,hle,hu,t,ht=>by
  obtain⟨c1,c2,c3,c4⟩:=zl
  obtain⟨n0,n1⟩:=gm hn
  subst c2
  have h1:=SY hf hn hl hw hc ab (t:=x) c1 (ha x (by simp)) hle (by omega)
  cases aE with
  |nil=>
   obtain rfl:x=t:=by simpa using ht
   exact h1
  |cons y aE=>
   rw[W5]at ht
   have:=Ez (y::aE) (bU n x) (cS n x+n.change) (cS n x) (k+1) c4 (fun t ht=>ha t (List.mem_cons_of_mem _ ht)) h1 (by split<;>omega) t ht
   rw[show k+(x::y::aE).length=k+1+(y::aE).length by simp only[VX];omega]
   exact this
theorem Q3{aO:Int}{aE:List au}(hC:bJ n l=true∧0≤bb (ak n) ar∧aO≤100000∧1≤ab)(EZ:0≤bb (ak n) aV)(hnd:(ar::aE.map (bU n)).Nodup)(nn:(ar::aE.map (bU n)).getLast?=some aV)
 (zl:gy n ar (if 0 > aO then 0 else aO) aE) (ha:∀t∈aE,NL n l ae ab t):∃PE,bE n l ae ar aV aO ab=some (PE,true):=by
 have Bt:l.length≤1048576:=by omega
 obtain⟨q1,q2,q3,q4⟩:=hC
 have hC':bJ n l=true∧0≤bb (ak n) ar∧aO≤100000∧1≤ab:=⟨q1,q2,q3,q4⟩
 have hlg:=qv hn
 have hp:(ak n).length≤40:=by have:=eA n;omega
 have bF:=(kM (ak n) ar).2
 obtain⟨n0,n1⟩:=gm hn
 have Hw:aC (bP n l ae ab (bb (ak n) ar) aO 0) (bb (ak n) ar)=some (if 0 > aO then 0 else aO):=by
  unfold bP
  rw[Bs hf (by omega) _ ⟨q2,bF⟩]
  exact qX q2 (by rw[List.length_replicate];omega)
 have h0:qc (bP n l ae ab (bb (ak n) ar) aO 0) (bb (ak n) ar) (if 0 > aO then 0 else aO):=⟨_,Hw,by split<;>omega,Wv _⟩
 have sD:∃e,qc (bP n l ae ab (bb (ak n) ar) aO (ak n).length) (bb (ak n) aV) e:=by
  cases K7:aE.getLast? with
  |none=>
   obtain rfl:aE=[]:=YD.1 K7
   obtain rfl:ar=aV:=by simpa using nn
   have:=sh hf hn (l:=l) Bt (ae:=ae) hc ab aO (bb (ak n) ar) Hw (by split<;>omega) (ak n).length
   rw[Wb]at this
   exact⟨_,this⟩
  |some t=>
   have Zfe:bU n t=aV:=by
    cases aE with
    |nil=>simp at K7
    |cons x xs=>
     rw[Wx,W5,←Wx,List.getLast?_map,K7]at nn
     exact VV nn
   have h1:=Ez hf hn hl hw hc ab aE ar _ _ 0 zl ha h0 (by rw[if_pos rfl];exact Wv _) t K7
   have hwp:=DO hf hn q2 hnd zl
   rw[Wb,Zfe]at h1
   obtain⟨v,v1,v2,v3⟩:=h1
   obtain⟨v',w1,w2,w3⟩:=sh hf hn (l:=l) Bt (ae:=ae) hc ab aO (bb (ak n) ar) v1 v2 ((ak n).length-aE.length)
   rw[show aE.length+((ak n).length-aE.length)=(ak n).length by omega]at w1
   exact⟨v',v',w1,w2,Wv _⟩
 obtain⟨r,_,e⟩:=nF hf Bt hc ar aV aO ab
 obtain⟨PE,b⟩:=r
 cases b with
 |true=>exact⟨PE,e⟩
 |false=>
 exfalso
 have h:=e
 obtain⟨e0,v,v1,v2,v3⟩:=sD
 have uk:=mc hf Bt hc ab (bb (ak n) ar) aO
 have PW:=(kM (ak n) aV).2
 unfold bE at h
 rw[(di hf).2]at h
 simp only[VS,n7 hf]at h
 rw[oL hf Bt hc ab aO hC' (V3 _)]at h
 simp only[VS,decide_eq_false (show ¬bb (ak n) aV<0 by omega),cond_false,decide_eq_false (show ¬(((bP n l ae ab (bb (ak n) ar) aO (ak n).length).length:Int)=0)by rw[uk];omega),v1,decide_eq_false (show ¬v<0 by omega)]at h
 obtain⟨k,z1,z2,z3,z4,z5⟩:=xt hf Bt hc ab aO hp hC' ⟨by omega,PW⟩ v1
 obtain⟨wy,p1,p2⟩:=M7 hf hn Bt hc ab aO hC' k aV v [] (by omega) z2 (by omega) z3 (by simp only[VY];omega) NN (by unfold NN;omega)
 rw[Xc]at p1
 simp only[z4,VS,p1,V1,Prod.mk.injEq]at h
 cases h.2
end
theorem Ey{n:aj}{l:List ao}(hb:bJ n l=true){b:ao}(hm:b∈l):((cx n b.bf.bx b.bf.day).getD false=true∧(1≤b.bk∧b.bk≤9999))∧1≤b.ab∧b.ab≤1000000:=by
 obtain⟨i,hi,rfl⟩:=Wf hm
 have h1:=(tE hb hi).1
 unfold F7 at h1
 rw[VT hi]at h1
 simp only[VZ,decide_eq_true_iff]at h1
 exact h1.1
theorem sA{n:aj}{l:List ao}(hb:bJ n l=true):∀b∈l,1≤b.ab∧b.ab≤1000000:=fun b hm=>(Ey hb hm).2
theorem KK{n:aj}{l:List ao}(hb:bJ n l=true){b:ao}(hm:b∈l):∃g,aC n.ay b.bf.bx=some g∧gG l b.bf≤g.fy:=by
 have hl:=(cW hb).2
 obtain⟨i,hi,rfl⟩:=Wf hm
 have h2:=(tE hb hi).2
 unfold Km at h2
 rw[VT hi]at h2
 simp only[zM (show l.length≤1000 by omega) (sA hb)]at h2
 cases hg:aC n.ay l[i].bf.bx with
 |none=>rw[hg]at h2;cases h2
 |some g=>
  rw[hg]at h2
  simp only[Wa,decide_eq_false_iff_not]at h2
  exact⟨g,rfl,by omega⟩
theorem OJ(a b:List ao)(t:au):gG (a++b) t=gG a t+gG b t:=by
 unfold gG
 rw[Xq,List.sum_append]
theorem Je(t:au):∀{bs l:List ao},bs.Nodup→(∀b∈bs,b∈l)→(∀b∈l,1≤b.ab∧b.ab≤1000000)→gG bs t≤gG l t
 | [],l,_,_,hw=>by have:=(rv hw t).1;simpa[gG]using this
 |x::bs,l,hn,hs,hw=>by
  obtain⟨h1,h2⟩:=Xr.1 hn
  have hx:=hs x (by simp)
  have ih:=Je t (bs:=bs) (l:=l.erase x) h2 (fun y hy=>(List.mem_erase_of_ne (fun e:y=x=>h1 (e▸hy))).2 (hs y (by simp[hy]))) fun b hb=>hw b (List.mem_of_mem_erase hb)
  have e:=CS (List.perm_cons_erase hx) t
  unfold gG at *
  rw[e]
  simp only[Wx,WT]
  omega
theorem NZ{n:aj}(hf:cI n)(hb:bJ n bs=true){bk ab:Int}(hth:1≤bk∧bk≤9999)(hwt:1≤ab∧ab≤1000000){aE:List au}(hnd:aE.Nodup)(hlen:bs.length+aE.length≤120)(Ze2:aE.length≤20)
 (ht:∀t∈aE,et n t=true) (Zap:∀t∈aE,∀y,aC n.ay t.bx=some y→ab≤y.fy-gG bs t) (Gq:∀t∈aE,∀b∈bs,¬(b.bk=bk∧b.bf=t)):∃d,ck n bs bk ab aE=some (d,true):=by
 have hn:=(cW hb).1
 have xb:(ff bk ab aE).length=aE.length:=by unfold ff;rw[Wg]
 obtain⟨d,hp,hs⟩:=DC (bs++ff bk ab aE) (by rw[V2,xb];omega)
 have Ri:d.length=bs.length+aE.length:=by rw[hp.length_eq,V2,xb]
 have vw:=sj hf (l:=bs) (by omega) bk ab (aE:=aE) (d:=d) hp hs
 have Ea:∀b∈d,b∈bs∨∃t∈aE,b=⟨bk,t,ab⟩:=fun b hm=>by
  rcases WC.1 (hp.mem_iff.1 hm)with h|h
  ·exact .inl h
  ·unfold ff at h
   obtain⟨t,h1,h2⟩:=WS.1 h
   exact .inr ⟨t,h1,h2.symm⟩
 have Zbc:d.Pairwise fun a b:ao=>¬(a.bk=b.bk∧a.bf=b.bf):=by
  refine hp.symm.pairwise ?_ (fun {x y} h e=>h ⟨e.1.symm,e.2.symm⟩)
  refine XZ.2 ⟨?_,?_,fun a ha b uX e=>?_⟩
  ·refine WG.2 fun i j hi hj xa e=>?_
   have:=rm hb j i hj xa
   rw[yi e.1 e.2]at this
   cases this
  ·unfold ff
   rw[Xf]
   exact List.Pairwise.imp (fun h e=>h e.2) hnd
  ·unfold ff at uX
   obtain⟨t,h1,rfl⟩:=WS.1 uX
   exact Gq t h1 a ha e
 have hdw:∀b∈d,1≤b.ab∧b.ab≤1000000:=fun b hm=>by
  rcases Ea b hm with h|⟨t,_,rfl⟩
  ·exact sA hb b h
  ·exact hwt
 have Zc9:∀t,cY d t=some (gG bs t+if t∈aE then ab else 0):=fun t=>by
  rw[zM (by omega) hdw,CS hp,OJ,CR _ _ _ _ hnd]
 have hd:bJ n d=true:=by
  unfold bJ
  rw[hn]
  simp only[Ws,WH,VZ,decide_eq_true_iff,V5,WW]
  refine⟨by omega,fun i hi=>⟨?_,?_⟩⟩
  ·have vu:((cx n d[i].bf.bx d[i].bf.day).getD false=true∧(1≤d[i].bk∧d[i].bk≤9999))∧1≤d[i].ab∧d[i].ab≤1000000:=by
    rcases Ea _ (Wm hi)with h|⟨t,h1,h2⟩
    ·exact Ey hb h
    ·rw[h2]
     exact⟨⟨ht t h1,hth⟩,hwt⟩
   unfold F7
   rw[VT hi]
   simp only[VZ,decide_eq_true_iff]
   refine⟨vu,?_⟩
   by_cases Ur:i=0
   ·rw[decide_eq_true Ur];rfl
   ·have h3:i-1<d.length:=by omega
    rw[VT h3,decide_eq_false Ur,Bool.false_or]
    simp only
    cases hbf:nj d[i-1] d[i]with
    |true=>rfl
    |false=>
     exfalso
     have h4:nj d[i] d[i-1]=false:=WG.1 hs (i-1) i h3 hi (by omega)
     have h5:=WG.1 Zbc (i-1) i h3 hi (by omega)
     have g1:=(wa _ _).1 hbf
     have g2:=(wa _ _).1 h4
     apply h5
     generalize d[i-1]=A at *
     generalize d[i]=B at *
     obtain⟨a1,⟨a2,a3⟩,a4⟩:=A
     obtain⟨b1,⟨b2,b3⟩,b4⟩:=B
     simp only at g1 g2⊢
     have e1:a3=b3:=by omega
     have e2:a2=b2:=by omega
     exact⟨by omega,by rw[e1,e2]⟩
  ·unfold Km
   rw[VT hi]
   simp only[Zc9]
   rcases Ea _ (Wm hi)with h|⟨t,h1,h2⟩
   ·obtain⟨g,hg,sE⟩:=KK hb h
    simp only[hg,Wa,decide_eq_false_iff_not]
    by_cases hw:d[i].bf∈aE
    ·have:=Zap _ hw g hg
     rw[if_pos hw];omega
    ·rw[if_neg hw];omega
   ·obtain⟨y,hy,MS⟩:=dG hf (ht t h1)
    have:=Zap t h1 y hy
    simp only[h2,hy,Wa,decide_eq_false_iff_not]
    rw[if_pos h1];omega
 rw[if_pos ⟨hb,Ze2,hd⟩]at vw
 exact⟨d,vw⟩
theorem Lo{x:av}{c:Nat→List au}(hP:tB x c)(qD:x.ae.length≤1048576)(Uo:x.aq.length≤100){i:Nat}{o:az}(ho:x.ah[i]?=some o)(rD:dp x.aa o=true)(hs:∀b∈bs,b∈x.aq)(hb:bJ x.aa bs=true)(uQ:BK x.aa x.ae x.now bs i o):
 BK x.aa x.ae x.now x.aq i o:=by
 have hf:=hP.fit.ey
 have hn:=(cW hP.kH).1
 have hO:=js hP ho
 obtain⟨r1,r2,r3,r4,r5⟩:=uJ rD
 obtain⟨e1,e2,e3⟩:=Gc hP ho
 have x5:i<30:=by have:=(VU.1 ho).1;have:=hP.GG;omega
 obtain⟨⟨aE,b⟩,_,e⟩:=nF hf (l:=x.aq) (by omega) (ae:=x.ae) qD (fx x.aa o) o.aV (atR x.aa x.now o) o.ab
 cases b with
 |false=>exact .inl ⟨aE,e⟩
 |true=>
 exfalso
 have hR:=nI hf (l:=x.aq) (by omega) qD e
 have uk:bs.length≤x.aq.length:=qT (vk hb) hs
 have hwx:=sA hP.kH
 have adm:∀{l:List ao} (hl:l.length≤1000) (hw:∀b∈l,1≤b.ab∧b.ab≤1000000) {wy:List au},Qd x.aa l x.ae o.ab (fx x.aa o) o.aV (atR x.aa x.now o) wy→∀t∈wy,NL x.aa l x.ae o.ab t:=fun {l} hl hw {wy} hW t ht=>by
  obtain⟨f1,y,q,f2,f3,f4⟩:=hW.found t ht
  rw[fP,fC qD]at f1
  rw[zM hl hw]at f3
  obtain rfl:=VV f3
  refine⟨VV f1,fun y' hy'=>?_⟩
  rw[f2]at hy'
  obtain rfl:=VV hy'
  have hrm:=(tj hf hn y (rn f2)).fy
  have:=rv hw t
  rw[aQ (by omega)]at f4
  exact f4
 have ha:∀t∈aE,NL x.aa bs x.ae o.ab t:=fun t ht=>by
  obtain⟨a1,a2⟩:=adm (by omega) hwx hR t ht
  refine⟨a1,fun y hy=>?_⟩
  have:=a2 y hy
  have:=Je t (vk hb) hs hwx
  omega
 obtain⟨PE,e'⟩:=Q3 hf hn (l:=bs) (by omega) (sA hb) qD o.ab ⟨hb,hR.hC.2⟩ hR.EZ hR.nodup hR.last hR.chain ha
 rcases uQ with⟨z,hz⟩ |⟨w0,h1,h2⟩
 ·rw[hz]at e';cases e'
 ·have hR0:=nI hf (l:=bs) (by omega) qD h1
  have D9:=hR0.len
  have Um:=hR0.chain
  rw[if_neg (by omega)]at Um
  have zl:gy x.aa o.ar (o.aO+1) (bQ o++w0):=by
   refine(wh _).2 ⟨by rw[r5];exact hO.chain,?_⟩
   rw[zz hP ho r1]
   exact yk Um e1
  have hnd:=sZ hf hn zl
  obtain⟨_,Ze7,ZeS⟩:=XZ.1 hnd
  have hwt:o.ab≤1000000:=by
   cases w0 with
   |nil=>
    have:=hR0.last
    exact absurd (by simpa using this) r3
   |cons t ts=>
    obtain⟨y,hy,MS⟩:=dG hf (mX Um t (by simp))
    have h1:=(adm (by omega) (sA hb) hR0 t (by simp)).2 y hy
    have h2:=(tj hf hn y MS).fy
    have h3:=rv (sA hb) t
    omega
  obtain⟨d,hd⟩:=NZ hf hb (bk:=((i+1:Nat):Int)) (ab:=o.ab) ⟨by omega,by omega⟩ ⟨hR.hC.2.2.2,hwt⟩ (aE:=w0) Ze7 (by omega) (by omega) (mX Um)
   (fun t ht=>(adm (by omega) (sA hb) hR0 t ht).2) (fun t ht b hm hbt=>by
    obtain⟨j,o',t',q1,q2,rfl⟩:=B8 hP (hs b hm)
    obtain⟨uY,zk⟩:=hbt
    have wz:j=i:=by simp only at uY;omega
    subst wz
    rw[ho]at q1
    obtain rfl:=VV q1
    obtain rfl:t'=t:=zk
    rw[←r5]at q2
    exact ZeS t' q2 t' ht rfl)
  rw[hd]at h2
  cases h2
theorem L0{w:av}(h:pL w)(uQ:∀(i:Nat) (o:az),w.ah[i]?=some o→dp w.aa o=true→BK w.aa w.ae w.now w.aq i o):∃r,eC w=some (r,0):=by
 have hf:=h.fit
 obtain⟨p1,p2,p3,p4,p5,p6,p7⟩:=h.parts
 obtain⟨hP,hRs⟩:=pX h
 let ids:=nC (dp w.aa) 0 w.ah
 have Ze0:ids.length≤30:=by
  show(nC _ 0 w.ah).length≤30
  rw[sq];exact Wq Xy p2
 unfold eC
 rw[wk hf,VS,ze h,VS]
 have key:aD (cB ids) NN (0,0,mK w)=some (0,mK w):=by
  refine lp (body:=cB ids) (fun a:Nat=>((0:Int),(a:Int),mK w)) (n:=ids.length) (o:=(0,mK w)) (fun a bF=>?_) ?_ NN (by unfold NN;omega)
  ·have hd:decide ((a:Int)<(ids.length:Int))=true:=decide_eq_true (by omega)
   have hwa:aL ((a:Int)+1)=((a+1:Nat):Int):=by rw[aQ (by omega)];omega
   have hia:ids[a]?=some ids[a]:=VT bF
   have hga:aC ids (a:Int)=some ids[a]:=by rw[aR];exact hia
   obtain⟨i,o,Gn,rD,hx⟩:=uf.1 (Wm bF)
   rw[Wb]at hx
   have rQ:ids[a]=((i+1:Nat):Int):=hx
   have ZeY:i<30:=by have:=(VU.1 Gn).1;omega
   obtain⟨r1,r2,r3,r4,r5⟩:=uJ rD
   obtain⟨u',_,e,hR,_⟩:=xn hP Gn r1 r3
   have EW:fQ w i o=w.aq:=by unfold fQ;rw[r4];exact EK _ _
   have wV:w.ah.set i o=w.ah:=by
    refine Yj fun j=>?_
    by_cases hj:i=j
    ·subst hj
     rw[Wl (VU.1 Gn).1,Gn]
    ·rw[Wt hj]
   have huu:u'=w:=by
    rcases hR with⟨_,x7⟩ |⟨aE,bs,hN,x7⟩
    ·rw[x7,EW,r5]
     show(⟨w.aa,w.ah.set i o,w.aq,w.ae,w.now,w.aH,w.skip,w.bd⟩:av)=w
     rw[wV]
    ·exfalso
     have h1:=hN.fy
     have h2:=hN.book
     rw[EW]at h1 h2
     rcases uQ i o Gn rD with⟨z,hz⟩ |⟨w0,g1,g2⟩
     ·rw[hz]at h1;cases h1
     ·rw[g1]at h1
      obtain rfl:w0=aE:=congrArg XR (VV h1)
      rw[g2]at h2
      cases h2
   rw[huu]at e
   have DX:=zd h Gn
   rw[rD]at DX
   have wB:aL (((i+1:Nat):Int)-1)=(i:Int):=by rw[aQ (by omega)];omega
   have Tf:aC w.ah (i:Int)=some o:=by rw[aR];exact Gn
   have e':eO ⟨⟨w.aa.ay,w.aa.off,w.aa.change⟩,w.ah,w.aq,w.ae,w.now,w.aH,w.skip,w.bd⟩ ((i+1:Nat):Int)=some w:=e
   unfold cB
   simp only[mK,hd,cond_true,hga,VS,bh,rQ,wB,e',Tf,hwa]
   rw[DX,VS]
   rfl
  ·have hd:decide ((ids.length:Int)<(ids.length:Int))=false:=decide_eq_false (by omega)
   unfold cB
   simp only[mK,hd,cond_false]
 have Zfn:aD (cB (nC (dp w.aa) 0 w.ah)) NN (0,0,w.aa.change,w.now,w.bd,w.aa.ay,w.aa.off,w.ah,w.aq,w.ae,w.aH,w.skip)=some (0,mK w):=key
 rw[Zfn]
 exact⟨_,rfl⟩
theorem yK{body:Int→Option (Int⊕(Unit⊕Bool))}{xs:List α}(h1:∀(i:Nat) x,xs[i]?=some x→body (i:Int)=some (.inl (aL ((i:Int)+1))))(h2:body (xs.length:Int)=some (.inr (.inl ())))(hl:xs.length≤1048576):aD body NN 0=some (.inl ()):=by
 exact lp (body:=body) (fun i:Nat=>(i:Int)) (n:=xs.length) (o:=.inl ()) (fun i hi=>by rw[h1 i _ (VT hi),bI hi (by omega)]) h2 NN (by unfold NN;omega)
theorem vO[DecidableEq α]{F:List α→List α→Option Bool}{B:List α→List α→Int→Option (Int⊕(Unit⊕Bool))}
 (hF:∀a b,F a b=cond (!decide ((a.length:Int)=(b.length:Int))) (some false) ((aD (B a b) NN 0).bind (bl (fun _=>some true) (fun r=>some r))))
 (hB:∀a b s0,B a b s0=cond (decide (s0<(a.length:Int))) ((aC a s0).bind fun y1=>(aC b s0).bind fun y2=>cond (!decide (y1=y2)) (some (.inr (.inr false))) (some (.inl (aL (s0+1))))) (some (.inr (.inl ())))) {l:List α} (hl:l.length≤1048576):F l l=some true:=by
 have e:aD (B l l) NN 0=some (.inl ()):=by
  refine yK (xs:=l) (fun i x hx=>?_) ?_ hl
  ·have bF:=(VU.1 hx).1
   have hg:aC l (i:Int)=some x:=by rw[aR];exact hx
   rw[hB,decide_eq_true (show(i:Int)<l.length by omega),hg]
   simp
  ·rw[hB];simp
 rw[hF,e]
 simp[bl]
theorem Np{l:List au}(hl:l.length≤1048576):fF l l=some true:=vO (F:=fF) (B:=kQ) (fun _ _=>rfl) (fun _ _ _=>rfl) hl
theorem Vx{l:List ao}(hl:l.length≤1048576):fH l l=some true:=vO (F:=fH) (B:=jD) (fun _ _=>rfl) (fun _ _ _=>rfl) hl
theorem Vy{l:List bM}(hl:l.length≤1048576):iB l l=some true:=vO (F:=iB) (B:=lW) (fun _ _=>rfl) (fun _ _ _=>rfl) hl
theorem VC{l:List br}(hl:l.length≤1048576):gM l l=some true:=vO (F:=gM) (B:=kP) (fun _ _=>rfl) (fun _ _ _=>rfl) hl
theorem Hi{l:List Int}(hl:l.length≤1048576):eX l l=some true:=vO (F:=eX) (B:=hX) (fun _ _=>rfl) (fun _ _ _=>rfl) hl
theorem VA{o:az}(h:o.aE.length≤1048576):lC o o=some true:=by
 unfold lC
 simp only[decide_true,cond_true,Np h,VS]
theorem VD{w:av}(h:pY w):lx w w=some true:=by
 unfold lx
 have e:aD (jj w w) NN 0=some (.inl ()):=by
  refine yK (xs:=w.ah) (fun i x hx=>?_) ?_ h.ah
  ·have bF:=(VU.1 hx).1
   have hg:aC w.ah (i:Int)=some x:=by rw[aR];exact hx
   unfold jj
   rw[decide_eq_true (show(i:Int)<w.ah.length by omega),hg]
   simp only[VS,VA (h.aE x (VW hx)),cond_true,V0,cond_false]
  ·unfold jj;simp
 rw[e]
 simp only[decide_true,V0,cond_false,VS,bl,Vy h.ey.ay,Hi h.ey.off,Vx h.aq,Np h.ae,VC h.aH,Hi h.skip,cond_true]
end Go.Proofs.YtbalgkakkoocjaaGreat
