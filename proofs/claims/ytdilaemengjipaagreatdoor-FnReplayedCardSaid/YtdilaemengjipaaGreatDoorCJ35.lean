/- A part of the proof of the statement in the last file of this claim: texts on the language of the program and on its functions. No condition. -/
import Derived.Test.YtdilaemengjipaaGreatDoorCJ32
import Derived.Test.YtdilaemengjipaaGreatDoorCJ22
import Derived.Test.YtdilaemengjipaaGreatDoorCJ7
import Derived.Test.YtdilaemengjipaaGreatDoorCJ18
import Derived.Test.YtdilaemengjipaaGreatDoorCJ4
import Derived.Test.YtdilaemengjipaaGreatDoorCJ6
import Derived.Test.YtdilaemengjipaaGreatDoorCJ16
import Derived.Test.YtdilaemengjipaaGreatDoorCJ28
import Derived.Test.YtdilaemengjipaaGreatDoorCJ24
import Derived.Test.YtdilaemengjipaaGreatDoorCJ14
import Derived.Test.YtdilaemengjipaaGreatDoorCJ12
import Derived.Test.YtdilaemengjipaaGreatDoorCJ19
import Derived.Test.YtdilaemengjipaaGreatDoorCJ8
import Derived.Test.YtdilaemengjipaaGreatDoorCJ29
import Derived.Test.YtdilaemengjipaaGreatDoorCJ1
import Derived.Deep.DeepCutAuto
import Derived.StillTailTactics
import Derived.Deep.RegionHeld3
import Derived.Sort.OwnSortedInts
import Derived.Test.YtdilaemengjipaaGreatDoorCJ25
import Derived.Test.YtdilaemengjipaaGreatDoorCJ23
import Derived.Test.YtdilaemengjipaaGreatDoorCJ31
import Derived.Test.YtdilaemengjipaaGreatDoorCJ26
import Derived.Test.YtdilaemengjipaaGreatDoorCJ20
set_option linter.unusedVariables false
set_option linter.unusedSimpArgs false
set_option linter.unusedSectionVars false
open Go.Value renaming int->Y1
open Go.IntKind renaming i64->Y2
open Go renaming undef->Y3
open Option renaming some->YW,none->YX
open Bool renaming true->YY,false->YZ
open Decidable renaming decide->Y0
open Go.Proofs.Tryz
set_option maxHeartbeats 40000000
open Option renaming bind_some->VT
open List renaming append_assoc->Xp,getElem_of_mem->Wf,pairwise_iff_getElem->Wy,take_succ_eq_append_getElem->Xa,map_append->X3,getElem?_eq_getElem->VV,getElem?_eq_none->Xf,length_nil->V1,length_cons->V0,mem_of_getElem?->VW
open Nat renaming lt_of_lt_of_le->WJ,lt_or_ge->Wv,le_refl->VY
open Option.some renaming inj->VX
open _root_.Array renaming getElem?_eq_getElem->V7
open _root_.Int renaming toNat->Wm
namespace Go.Proofs.YtdilaemengjipaaGreatDoor
set_option maxRecDepth 10000
open Go.RowKit
variable {d e l:List aq}{n:ah}
abbrev QX(a b:aq):Prop:=pA b a=YZ
theorem zq{a b:aq}(h:pA a b=YY):pA b a=false:=Go.Sort.SWO.asymmA BM h
theorem M3(hl:l.length<=1048575)(b:aq)(hs:l.Pairwise QX):aV (nB l b) λr=>r.length=l.length+1/\r.Perm (l++[b])/\r.Pairwise QX:=by
 unfold nB;refine aV.bind (P:=λo:Int=>∃k:Nat,o=(k:Int)/\k<=l.length/\(∀i (h:i<l.length),i<k->pA l[i] b=YY)/\(∀h:k<l.length,pA l[k] b=YZ)) ?_ λo ho=>?_
 ·refine aV.loop (λk s=>∃i:Nat,s=(i:Int)/\i+k=l.length/\∀j (h:j<l.length),j<i->pA l[j] b=YY) (λk s hs=>?_) NN l.length 0 ⟨0,rfl,Yn,λj _ h=>Yn⟩ Ys
  obtain⟨i,rfl,hk,hb⟩:=hs;unfold pW;refine aV.cond (λhd=>?_) λhd=>aV.ret ⟨i,rfl,Yn,λj h h'=>hb j h h',λh=>by simp_all⟩
  have bX:=Yh hd;have hw:aM ((i:Int)+1)=((i+1:Nat):Int):=by rw[aR Yn];omega
  have Bb:i<l.length:=Yn;have hy:aB l (i:Int)=YW l[i]:=by rw[aP];simp
  rw[hy,VT,Cd,VT];refine aV.cond (λh1=>aV.ret ⟨k-1,Yn,i+1,hw,Yn,λj h h'=>?_⟩) λh1=>aV.ret ⟨i,rfl,Yn,λj h h'=>hb j h h',λ_=>h1⟩
  grind
 ·obtain⟨k,rfl,hk,ZiE,SB⟩:=ho
  have e1:cM l 0 (k:Int)=l.take k:=by rfl
  have e2:cM l (k:Int) (l.length:Int)=l.drop k:=by
   unfold cM;simp only[Int.toNat_natCast];rw[List.take_of_length_le Yq]
  rw[e1,e2];refine aV.cr YJ ?_;rw[qY Yr,VT];refine aV.cr (oX Yr Yn) (aV.cr YJ (aV.cr (oX Yr Yn) (aV.ret ⟨?_,?_,?_⟩)))
  ·grind
  ·have h1:(l.take k++[b]++l.drop k).Perm (l.take k++(l.drop k++[b])):=by
    grind
   rw[<-Xp,List.take_append_drop]at h1
   omega
  ·have CR:=List.Pairwise.sublist (List.take_sublist k l) hs
   have CS:=List.Pairwise.sublist (List.drop_sublist k l) hs;have Ba:∀y∈l.drop k,pA y b=false:=λy hy=>by
    obtain⟨j,hj,rfl⟩:=Wf hy;rw[List.length_drop]at hj
    rw[List.getElem_drop];have h0:=SB Yn
    by_cases hj0:j=0
    ·simp_all
    ·have:=Wy.1 hs k (k+j) Yn Yn Yn
     exact BM.ntrans _ _ _ this h0
   have bX:∀x∈l.take k,pA x b=true:=λx hx=>by
    obtain⟨j,hj,rfl⟩:=Wf hx
    grind
   rw[Xp,List.pairwise_append];refine⟨CR,?_,λx hx y hy=>?_⟩
   ·grind
   ·rw[List.singleton_append,List.mem_cons]at hy
    rcases hy with rfl|hy
    ·exact zq (bX x hx)
    ·exact BM.ntrans _ _ _ (Ba y hy) (zq (bX x hx))
def gX(bz ab:Int)(aK:List av):List aq:=aK.map λt=>⟨bz,t,ab⟩
theorem H6(h:cu n l=YY):l.Pairwise QX:=Wy.2 λi j hi hj zf=>zq (sB h j i hj zf)
theorem DN(hp:d.Perm e)(hd:d.Pairwise QX)(he:e.Pairwise QX)(hb:cu n d=YY):d=e:=by
 refine List.Perm.eq_of_pairwise (le:=QX) (λa b ha Ga h1 h2=>?_) hd he hp
 have xJ:=hp.mem_iff.2 Ga;obtain⟨i,hi,rfl⟩:=Wf ha;obtain⟨j,hj,rfl⟩:=Wf xJ
 rcases Nat.lt_trichotomy i j with h|h|h
 ·have:=sB hb j i hj h
  simp_all
 ·simp_all
 ·have:=sB hb i j hi h
  simp_all
theorem QG(hp:d.Perm e)(hd:d.Pairwise QX)(he:e.Pairwise QX):cu n d=cu n e:=by
 cases h1:cu n d with
 |true=>rw[<-DN hp hd he h1,h1]
 |false=>
  cases h2:cu n e with
  |false=>rfl
  |true=>rw[DN hp.symm he hd h2,h1]at h2;omega
theorem tF(hf:cU n)(hl:l.length<=1048000)(bz ab:Int){aK:List av}(hp:d.Perm (l++gX bz ab aK))(hs:d.Pairwise QX):
 cx n l bz ab aK=YW (if cu n l=YY/\aK.length<=20/\cu n d=YY then(d,YY)else(l,YZ)):=by
 unfold cx;rw[qY Yn,VT,iJ hf Yn,VT]
 by_cases hb:cu n l=YY
 case neg=>
  simp_all
 rw[hb]
 by_cases hw:aK.length<=20
 case neg=>
  grind
 rw[Yg (show ¬20<(aK.length:Int)by omega)]
 obtain⟨o,ho,LB,CQ,SC⟩:aV (aE (l6 n l bz ab aK) NN (0,l)) λo=>o.length=l.length+aK.length/\o.Perm (l++gX bz ab aK)/\o.Pairwise QX:=by
  refine aV.loop (λk s=>∃i:Nat,s.1=(i:Int)/\i+k=aK.length/\s.2.length=l.length+i/\s.2.Perm (l++gX bz ab (aK.take i))/\s.2.Pairwise QX) (λk s hs=>?_) NN aK.length _ ⟨0,rfl,Yn,rfl,by simp[gX],H6 hb⟩ Ys
  obtain⟨i,hi,hk,hlen,hpp,hss⟩:=hs;unfold l6;rw[hi];refine aV.cond (λhd=>?_) λhd=>aV.ret (by
   have:=Yi hd;have hi2:i=aK.length:=Yn;rw[hi2,List.take_length]at hpp
   exact⟨Yn,hpp,hss⟩)
  have bX:=Yh hd;have BE:aM ((i:Int)+1)=((i+1:Nat):Int):=by rw[aR Yn];omega
  have Bb:i<aK.length:=Yn;have hy:aB aK (i:Int)=YW aK[i]:=by rw[aP];simp
  rw[hy,VT,BE];refine aV.bind (M3 Yn _ hss) λr hr=>aV.ret ⟨k-1,Yn,i+1,rfl,Yn,by grind,?_,hr.2.2⟩
  refine hr.2.1.trans ?_;have:gX bz ab (aK.take (i+1))=gX bz ab (aK.take i)++[⟨bz,aK[i],ab⟩]:=by
   unfold gX;rw[Xa Bb,X3];rfl
  grind
 simp only[Bool.not_true,Yk,ho,VT];rw[iJ hf Yn,VT,QG (n:=n) (CQ.trans hp.symm) SC hs]
 by_cases hd:cu n d=YY
 ·rw[hd,if_pos ⟨by simp,hw,by rfl⟩,DN (hp.trans CQ.symm) hs SC hd];rfl
 simp_all
end Go.Proofs.YtdilaemengjipaaGreatDoor
namespace Go.Proofs.YtdilaemengjipaaGreatDoor
set_option maxRecDepth 10000
open Go.RowKit Go.Lib Go.Sort
set_option maxRecDepth 100000
abbrev SW(w:World):Nat->Prop:=λb=>b<w.heap.size
theorem wG{w w':World}{p:PV}{x:Value}(h:eI w (SW w) p x)(hu:Up w w'):eI w' (SW w') p x:=
 h.ext (λb hb=>WJ hb hu.size) (λb o hb=>hu.cell (p:=⟨b,o,YX⟩) hb)
theorem fa.ZhO{P:Program}{α:Type}[eZ α]{c:α->List PV}[hf:zk c (id:α->α)]{f:FuncId}{args:List PV}{T:TypeId}{r:List α}(h:fa P f args [] (.ms 0) [YW ⟨T,eZ.k α,r.map c⟩]){w:World}(ht:Es w (nC λ_=>YX)){vs:Array Value}(hl:vs.size=args.length)(ha:∀(i:Nat) (p:PV),args[i]?=YW p->∃x,vs[i]?=YW x/\dG w (E1 (SW w) (λ_=>YX) 0) p x):
 Calls P f vs w λe w'=>∃v,e=.returned v/\Own w' w.heap.size T v r/\Up w w':=by
 have hok:Ok w (nC λ_=>YX) (E1 (λb=>b<w.heap.size) (λ_=>YX) 0) w []:=
  ⟨Et.refl _ _,λb h=>h,λl B h=>YA,λl l' B B' h=>YA,λl h=>absurd h (Nat.not_lt_zero l),λl B h=>YA,λl mb h=>Yr,λl B h=>YA,ht,λ_ _ h=>h.elim⟩
 refine(h (λb=>b<w.heap.size) (λ_=>YX) w vs (λ_ _=>False) hok hl ha).mono ?_
 rintro e w' ⟨v,E',rfl,hk,_,_,_,hr⟩;refine⟨v,rfl,?_,⟨hk.up.os,hk.up.tape,hk.up.output,hk.up.size,λb hb=>hk.up.block b hb L0⟩⟩
 obtain⟨B,hB,hb,rfl⟩:=hr.tw hk (l:=0) rfl;have Ph:=hb.k;have hn:B.n=r.length:=by have:=hb.n;simp_all
 have hT:=hb.T;simp only at Ph hT
 cases hz:B.z with
 |true=>
  have h0:r=[]:=by have:=hb.nil hz;simp_all
  subst h0;have Pn:B.sv=.slice YX 0 0:=by simp[qt.sv,hz]
  rw[Pn];exact World.ownsRow_nil _ _ _ _
 |false=>
  have Pn:B.sv=.slice (YW ⟨B.b,0,YX⟩) r.length B.c:=by simp[qt.sv,hz,hn]
  rw[Pn];obtain⟨cells,hc,so,yl⟩:=hb.mem hz;have oC:=hk.own 0 B hB hz;have Ly:w.heap.size<=B.b:=by
   grind
  refine⟨by rw[qA],.inr ⟨B.b,B.c,cells,rfl,Ly,by simp_all,by rw[<-hn];exact hb.nc,hb.cm,by simp_all,?_⟩⟩
  apply List.ext_getElem?;intro t;have hkp:0<eZ.k α:=eZ.pos
  rcases Wv t (r.length*eZ.k α)with hi|hi
  ·rw[List.getElem?_take_of_lt hi,Array.getElem?_toList]
   have nj:t / eZ.k α<r.length:=by rw[Nat.div_lt_iff_lt_mul hkp];omega
   have hj:=Nat.mod_lt t hkp;have e0:t / eZ.k α*eZ.k α+t % eZ.k α=t:=by rw[Nat.mul_comm];exact Nat.div_add_mod t _
   have uo:(c r[t / eZ.k α]).length=eZ.k α:=hf.len _;obtain⟨u,uW,xM⟩:=hf.aQ r[t / eZ.k α] (t % eZ.k α) _ (VV Yn);obtain⟨x,x1,_,x3⟩:=yl (t / eZ.k α) (c r[t / eZ.k α]) (t % eZ.k α) (.v u) Yr Yv;obtain⟨rfl,_⟩:=x3.iz;rw[Ph,e0]at x1
   have Lx:=uz (xs:=r) (i:=t / eZ.k α) (x:=r[t / eZ.k α]) (VV nj) uW
   simp_all
  ·rw[Xf Yr,Xf (by rw[qA];omega)]
theorem ZeF:Q3 prog 29 147 (eZ.k aq) 32:=Q3.mk' (z:=.agg #[I 0,I 0,I 0,I 0]) Tryz.underlying29 Yp rfl
section
variable {n:ah} (hf:cU n) {w:World} {O:Nat->Prop} (ht:Es w O) {v0 v1:Value} (h0:eI w (SW w) (.sl (n.aA.map bo)) v0) (h1:eI w (SW w) (.sl (n.off.map aG)) v1)
include hf ht h0 h1
theorem Ro{W:World}(hu:Up w W){xs:List aq}(hx:xs.length<=1048576){lv:Value}(hl:eI W (SW W) (.sl (xs.map aC)) lv):
 Calls prog 85 #[.agg #[v0,v1,I n.change],lv] W λe w'=>e=.returned (.bool (cu n xs))/\Up W w':=by
 have o0:=h0.one Yq Yq;have o1:=h1.one Yq Yq;have hC:=CT.ok (P:=prog) (vB hf hx);simp only[CT.f,CT.args,CT.m0,CT.res,CT.mem]at hC
 refine fa.Zf5 hC (MR ht (O':=λ_=>False) ⟨hu.os,hu.tape,hu.output,hu.size,λb hb _=>hu.block b hb⟩ λb _ h=>h.elim) rfl λi p hp=>?_
 match i with
 |0=>
  obtain rfl:_=p:=VX hp;refine⟨_,rfl,.ag _ _ rfl (λj x hx=>?_) λj p x hp hx=>?_⟩
  ·match j with
   |0=>simp_all
   |1=>simp_all
   |2=>obtain rfl:_=x:=VX hx
       rfl
   |j+3=>grind
  ·match j with
   |0=>obtain rfl:_=x:=VX hx
       obtain rfl:_=p:=VX hp;exact .c (wG h0 hu)
   |1=>obtain rfl:_=x:=VX hx
       obtain rfl:_=p:=VX hp;exact .c (wG h1 hu)
   |2=>obtain rfl:_=x:=VX hx
       obtain rfl:_=p:=VX hp;exact Kb _ rfl
   |j+3=>grind
 |1=>
  obtain rfl:_=p:=VX hp;exact⟨_,rfl,.c hl⟩
 |i+2=>grind
omit hf h0 h1 in
theorem Nc{W:World}(hu:Up w W){xs:List aq}(hx:xs.length<=1048576){lv:Value}(hl:eI W (SW W) (.sl (xs.map aC)) lv):
 Calls prog 132 #[lv] W λe w'=>∃v,e=.returned v/\Own w' W.heap.size 147 v xs/\Up W w':=by
 have hm:gr xs=YW xs:=by
  unfold gr;simp only[V1,x8 hx (show 32<=1024 by omega),VT,List.nil_append]
 have hC:=CT.ok (P:=prog) hm;simp only[CT.f,CT.args,CT.m0,CT.res,CT.mem]at hC
 refine fa.ZhO hC (MR ht (O':=λ_=>False) ⟨hu.os,hu.tape,hu.output,hu.size,λb hb _=>hu.block b hb⟩ λb _ h=>h.elim) rfl λi p hp=>?_
 match i with
 |0=>
  obtain rfl:_=p:=VX hp;exact⟨_,rfl,.c hl⟩
 |i+1=>grind
end
theorem Bu{w w':World}{b o:Nat}{v:Value}(h:w.cell? ⟨b,o,YX⟩=YW v)(hb:b<w.heap.size)(hu:Up w w'):w'.cell? ⟨b,o,YX⟩=YW v:=(hu.cell (p:=⟨b,o,YX⟩) hb).trans h
theorem ZbG{w W:World}{O:Nat->Prop}(h:Es w O)(hu:Up w W){B:Nat}(hB:w.heap.size<=B):Es W (λb=>B<=b):=by
 obtain⟨T,h1,h2⟩:=h;exact⟨T,λb hb=>⟨WJ (h1 b hb).1 hu.size,λh=>by have:=(h1 b hb).1;omega⟩,λw'' Zdf=>h2 w'' λb hb=>(Zdf b hb).trans (hu.block b (h1 b hb).1)⟩
theorem Tr{w:World}{B Bx:Nat}{v v':Value}{xs:List aq}(h:Own w B 147 v xs)(hx:w.heap[Bx]?=YW (.cells #[v'] 29 (0,0))):v.ownBlock≠YW Bx:=by
 rcases h.2 with⟨hv,_⟩ |⟨g,cap,cur,hv,hB,hg,_⟩
 ·rw[hv];simp[Value.ownBlock]
 ·rw[hv]
  intro e;have:g=Bx:=by simpa[Value.ownBlock]using e
  subst this;rw[hg]at hx
  simp at hx
section
variable {n:ah} (hf:cU n) {w:World} {O:Nat->Prop} (ht:Es w O) {v0 v1:Value} (h0:eI w (SW w) (.sl (n.aA.map bo)) v0) (h1:eI w (SW w) (.sl (n.off.map aG)) v1)
 {l:List aq} (hl:l.length<=1048000) {lv:Value} (hlr:eI w (SW w) (.sl (l.map aC)) lv) (bz ab:Int) {aK:List av} (UQ:aK.length<=1048576) {A:Option Addr} {wn:Nat} (Hr:Rd w w.heap.size A aK)
include hf ht h0 h1 hl hlr UQ Hr
theorem Vf(wU:¬(cu n l=YY/\aK.length<=20)):
 Calls prog 138 #[.agg #[v0,v1,I n.change],lv,I bz,I ab,.slice A aK.length wn] w λe w'=>∃v,e=.returned (.tuple #[v,.bool YZ])/\Own w' w.heap.size 147 v l/\Up w w':=by
 have hA:=fun(W:World) (hu:Up w W)=>Ro hf ht h0 h1 hu (xs:=l) Yn (wG hlr hu)
 have hC:=fun(W:World) (hu:Up w W)=>Nc ht hu (xs:=l) Yn (wG hlr hu)
 have HA:Hid _:=hA;have HC:Hid _:=hC;clear hA hC hf ht h0 h1 hlr Hr
 by_cases hb:cu n l=YY
 ·have h20:(20:Int)<(aK.length:Int):=by
   rcases Wv 20 aK.length with h|h
   ·omega
   ·exact absurd ⟨hb,h⟩ wU
  have Hb:Hid (cu n l=YY):=hb;clear wU hb
  go_enter func138,ntmps138
  go_wp2_with (first
   |(go_at_call 85;refine(HA.out _ Yo).mono ?_;rintro e w1 ⟨rfl,uW⟩;rw[Hb.out])
   |(go_at_call 132;refine(HC.out _ Yo).mono ?_;rintro e w2 ⟨v2,rfl,CQ,xM⟩))
  go_ret2
  exact⟨v2,rfl,CQ.down Yo,by(repeat(first|exact Up.rfl' _|(refine Up.al _ ?_) |(refine Up.dr _ ?_) |(refine Up.rR ?_) |(refine Up.sc ?_ Yt _) |(refine Up.step Yz ?_)))⟩
 ·have Ga:cu n l=false:=by simpa using hb
  have Hb:Hid (cu n l=YZ):=Ga;clear wU hb Ga
  go_enter func138,ntmps138
  go_wp2_with (first
   |(go_at_call 85;refine(HA.out _ Yo).mono ?_;rintro e w1 ⟨rfl,uW⟩;rw[Hb.out])
   |(go_at_call 132;refine(HC.out _ Yo).mono ?_;rintro e w2 ⟨v2,rfl,CQ,xM⟩))
  go_ret2
  exact⟨v2,rfl,CQ.down Yo,by(repeat(first|exact Up.rfl' _|(refine Up.al _ ?_) |(refine Up.dr _ ?_) |(refine Up.rR ?_) |(refine Up.sc ?_ Yt _) |(refine Up.step Yz ?_)))⟩
theorem Ru(hb:cu n l=YY)(h20:aK.length<=20):
 Calls prog 138 #[.agg #[v0,v1,I n.change],lv,I bz,I ab,.slice A aK.length wn] w λe w'=>∃v ys ok,e=.returned (.tuple #[v,.bool ok])/\Own w' w.heap.size 147 v ys/\Up w w'/\cx n l bz ab aK=YW (ys,ok):=by
 have hlb:=(dQ hb).2;have hA:=fun(W:World) (hu:Up w W) (xs:List aq) (hx:xs.length<=1048576) (lv:Value) (hl:eI W (SW W) (.sl (xs.map aC)) lv)=>Ro hf ht h0 h1 hu (xs:=xs) hx hl
 have hC:=fun(W:World) (hu:Up w W)=>Nc ht hu (xs:=l) Yn (wG hlr hu)
 have HA:Hid _:=hA;have HC:Hid _:=hC;have HL:Hid (∀W,Up w W->eI W (SW W) (.sl (l.map aC)) lv):=λW hu=>wG hlr hu
 have HW:Hid (Rd w w.heap.size A aK):=Hr;have HF:Hid (cU n):=hf;have HT:Hid (Es w O):=ht;have Hb:Hid (cu n l=YY):=hb;have Ziz:¬(20:Int)<(aK.length:Int):=Yn;clear hA hC hf ht h0 h1 hlr Hr hb
 go_enter func138,ntmps138
 go_wp2_with (first
  |(go_at_call 85;refine(HA.out _ Yo l Yn lv (HL.out _ Yo)).mono ?_;rintro e w1 ⟨rfl,uW⟩;rw[Hb.out])
  |(go_at_call 132;refine(HC.out _ Yo).mono ?_;rintro e w2 ⟨v2,rfl,CQ,xM⟩;obtain⟨A2,c2,rfl,Hp,_⟩:=CQ.form))
 have hub:Up (w.alloc (.cells #[v0,v1,I n.change] 27)) w2:=by(repeat(first|exact Up.rfl' _|(refine Up.al _ ?_) |(refine Up.dr _ ?_) |(refine Up.rR ?_) |(refine Up.sc ?_ Yt _) |(refine Up.step Yz ?_)))
 have oC:Own w2 (w.heap.size+1) 147 (.slice A2 l.length c2) l:=by
  have:=CQ.down (w0:=w.alloc (.cells #[v0,v1,I n.change] 27)) Yo
  simpa using this
 have HUB:=Lib.hid hub;have HO:=Lib.hid oC;clear CQ Hp oC
 go_loopw [30] (λvi wr=>∃(i:Nat) (v:Value),vi=Y1 Y2 i/\i<=aK.length/\Own wr (w.heap.size+1) 147 v (l++gX bz ab (aK.take i))/\wr.heap[w2.heap.size]?=YW (.cells #[v] 29 (0,0))/\Up (w.alloc (.cells #[v0,v1,I n.change] 27)) wr) (λvi _=>aK.length-(intOf vi).toNat)
 case atStart=>
  refine⟨0,_,by go_num,Yn,?_,heap_alloc_new _ _,Up.al _ HUB.out⟩
  simp only[List.take_zero,gX,List.map_nil,List.append_nil];exact HO.out.up (Up.al _ (Up.rfl' _))
 case round=>
  obtain⟨i,v,rfl,hi,hv,hx,Hr⟩:=hrel;obtain⟨A3,c3,rfl,hc3,hm3⟩:=hv.form;have BD:(l++gX bz ab (aK.take i)).length=l.length+i:=by simp[gX];omega
  rw[BD]at hv hx
  have hcx:wr.cell? ⟨w2.heap.size,0,YX⟩=YW (.slice A3 (l.length+i) c3):=by rw[cell_of_row wr _ 0 _ _ (0,0) hx];rfl
  have hz:w2.heap.size<wr.heap.size:=(Array.getElem?_eq_some_iff.1 hx).1;have KT:wr.heap.size≠w2.heap.size:=Yn;have ER:w2.heap.size≠wr.heap.size:=Yn;have HV:=Lib.hid hv;have HX:=Lib.hid hx;have HWR:=Lib.hid Hr;have HNL:=Lib.hid BD;clear hv hx Hr;clear BD hc3 hm3
  by_cases bX:i<aK.length
  ·obtain⟨b,off,rfl,hbb,BA⟩:=(HW.out.up (Up.step (w.alloc (.cells #[v0,v1,I n.change] 27) |> λ_=>HWR.out) (Up.al _ (Up.rfl' w)))).aQ (VV bX)
   have d0:wr.cell? ⟨b,off+i*2,YX⟩=YW (I aK[i].bH):=BA 0 _ rfl;have d1:wr.cell? ⟨b,off+i*2+1,YX⟩=YW (I aK[i].day):=BA 1 _ rfl;clear BA;have Zfq:Rd ((wr.alloc (.cells #[I aK[i].bH,I aK[i].day] 46)).alloc (.cells #[I bz,I aK[i].bH,I aK[i].day,I ab] 147)) (wr.heap.size+2) (YW ⟨wr.heap.size+1,0,YX⟩) [(⟨bz,aK[i],ab⟩:aq)]:=by
    have e:(wr.alloc (.cells #[I aK[i].bH,I aK[i].day] 46)).heap.size=wr.heap.size+1:=by simp
    have h:=Rd.one (wr.alloc (.cells #[I aK[i].bH,I aK[i].day] 46)) 147 (⟨bz,aK[i],ab⟩:aq) (wr.heap.size+2) (by rw[e];omega)
    rw[e]at h
    exact h
   have HR1:=Lib.hid Zfq;clear Zfq;have hlen:=HNL.out;have uV:w.heap.size+1<=wr.heap.size:=by have:=HWR.out.size;simpa using this
   go_wp2_with (at_builtin;refine kt ZeF rfl (.tmp 34) (.tmp 39) rfl (base:=w.heap.size+1) (ys:=l++gX bz ab (aK.take i)) (xs:=[(⟨bz,aK[i],ab⟩:aq)]) YQ (HV.out.up Yo) 1 YQ rfl HR1.out YN (by unfold maxLen;simp only[V0,V1];omega) Yw ?_;intro v' w3 SC hg3 _ UP;refine Hid.out ?_)
   have KS:w3.heap[w2.heap.size]?=YW (.cells #[.slice A3 (l.length+i) c3] 29 (0,0)):=by
    rw[hg3.block _ Yw (λe=>Tr HV.out HX.out e.symm)]
    exact((Up.al _ (Up.al _ (Up.rfl' wr))).block _ hz).trans HX.out
   obtain⟨A4,c4,rfl,hc4,hm4⟩:=SC.form;have hl4:(l++gX bz ab (aK.take i)++[(⟨bz,aK[i],ab⟩:aq)]).length=l.length+(i+1):=by simp[gX];omega
   rw[hl4]at SC⊢
   clear hl4;have Nx:gX bz ab (aK.take (i+1))=gX bz ab (aK.take i)++[⟨bz,aK[i],ab⟩]:=by
    unfold gX;rw[Xa bX,X3];rfl
   have Zg5:w3.cell? ⟨w2.heap.size,0,YX⟩=YW (.slice A3 (l.length+i) c3):=by rw[cell_of_row w3 _ 0 _ _ (0,0) KS];rfl
   have ZiJ:w3.frozen? ⟨w2.heap.size,0,YX⟩=false:=by simp[World.frozen?,KS]
   have Zfv:Up (w.alloc (.cells #[v0,v1,I n.change] 27)) w3:=UP _ Yq (Up.al _ (Up.al _ HWR.out));have HX3:=Lib.hid KS;have HO3:=Lib.hid SC;have HN:=Lib.hid Nx;have HW3:=Lib.hid Zfv;clear KS SC hg3 UP Nx Zfv hc4 hm4 hlen;refine Lib.hid ?_
   go_wp2
   refine⟨⟨i+1,_,by go_num,Yn,?_,heap_setCell_same w3 _ 0 _ _ _ HX3.out,Up.sc HW3.out (by have:=HUB.out.size;simp at this⊢;omega) _⟩,by simp[intOf];omega⟩
   rw[HN.out,<-Xp];exact HO3.out.grown (row:=YW w2.heap.size) ⟨rfl,rfl,rfl,by simp,λk hk gZ=>heap_setCell_other _ _ _ _ (λe=>gZ (by rw[e]))⟩ (.inr (Tr HO3.out HX3.out))
  ·have hie:i=aK.length:=Yn
   subst hie;have u0:=ZbB HV.out HX.out (by rw[HNL.out];omega) (ZbG HT.out (Up.step HWR.out (Up.al _ (Up.rfl' w))) Yn) (λb h=>h)
   have ze:¬(aK.length:Int)<(aK.length:Int):=Yn
   go_wp2_with (go_at_call 200;refine u0.mono ?_;rintro e w4 ⟨rfl,ys,hp,hs,ho4,hu4⟩;refine Hid.out ?_)
   rw[List.take_length]at hp
   have hyl:ys.length=l.length+aK.length:=by rw[hp.length_eq];simp[gX]
   have AF:=tF HF.out hl bz ab hp hs;have Pp:Up (w.alloc (.cells #[v0,v1,I n.change] 27)) w4:=by
    have h:=HWR.out;exact⟨hu4.os.trans h.os,hu4.tape.trans h.tape,hu4.output.trans h.output,Nat.le_trans h.size hu4.size,λb hb=>(hu4.block b (WJ hb h.size) (λhh=>by simp at hb;omega)).trans (h.block b hb)⟩
   have e0:w4.cell? ⟨w.heap.size,0,YX⟩=YW v0:=Bu Yq Yq Pp;have e1:w4.cell? ⟨w.heap.size,1,YX⟩=YW v1:=Bu Yq Yq Pp;have e2:w4.cell? ⟨w.heap.size,2,YX⟩=YW (I n.change):=Bu Yq Yq Pp;have ex:w4.heap[w2.heap.size]?=YW (.cells #[.slice A3 (l.length+aK.length) c3] 29 (0,0)):=(hu4.block _ hz (λhh=>hh.2 rfl)).trans HX.out
   have exc:w4.cell? ⟨w2.heap.size,0,YX⟩=YW (.slice A3 (l.length+aK.length) c3):=by rw[cell_of_row w4 _ 0 _ _ (0,0) ex];rfl
   have hrp:eI w4 (SW w4) (.sl (ys.map aC)) (.slice A3 (l.length+aK.length) c3):=by
    rw[<-hyl]at ho4⊢
    obtain⟨A5,c5,e5,h5,h6⟩:=ho4.form;obtain⟨rfl,rfl⟩:A3=A5/\c3=c5:=by simpa using e5
    exact N0 (c:=aC) id (by rw[List.map_id];exact ho4.rd) h5 h6
   have Zde:Up w w4:=Up.step Pp (Up.al _ (Up.rfl' w));have hA:=HA.out w4 Zde ys Yn _ hrp;have HSP:=Lib.hid AF;have HO4:=Lib.hid ho4;have HUP:=Lib.hid Pp;have Zcq:=Lib.hid Zde;have HZ4:Hid (w2.heap.size<w4.heap.size):=WJ hz hu4.size;clear u0 hp hs ho4 hu4 hyl AF Pp ex hrp Zde;refine Lib.hid ?_
   cases hby:cu n ys with
   |true=>
    rw[hby]at hA
    have HBY:=Lib.hid hby;clear hby
    go_wp2_with (first
     |(go_at_call 85;refine hA.mono ?_;rintro e w5 ⟨rfl,zL⟩;have Ziy:=Bu exc HZ4.out zL))
    go_ret2
    exact⟨_,ys,YY,rfl,(HO4.out.more Yn).up zL,Up.step zL (Up.step HUP.out (Up.al _ (Up.rfl' w))),by rw[HSP.out,if_pos ⟨Hb.out,h20,HBY.out⟩]⟩
   |false=>
    rw[hby]at hA
    have HBY:=Lib.hid hby;clear hby
    go_wp2_with (first
     |(go_at_call 85;refine hA.mono ?_;rintro e w5 ⟨rfl,zL⟩)
     |(go_at_call 132;refine(HC.out _ (Up.step zL Zcq.out)).mono ?_;rintro e w6 ⟨v6,rfl,ho6,hu6⟩))
    go_ret2
    exact⟨v6,l,YZ,rfl,ho6.down (Up.step zL Zcq.out),Up.step hu6 (Up.step zL Zcq.out),by rw[HSP.out,if_neg (λh=>by rw[HBY.out]at h;cases h.2.2)]⟩
end
end Go.Proofs.YtdilaemengjipaaGreatDoor
namespace Go.Proofs.YtdilaemengjipaaGreatDoor
set_option maxRecDepth 10000
open Go.RowKit Go.Lib
def ZcQ(n:ah):Bool:=Y0 (n.aA.length<=1048576)&&Y0 (n.off.length<=1048576)&&n.aA.all λl=>Y0 (l.ar.size<=sy)&&Y0 (l.aY.size<=sy)
theorem CB{n:ah}:ZcQ n=YY↔cU n:=by
 unfold ZcQ;simp only[Bool.and_eq_true,Yl,List.all_eq_true];exact⟨λh=>⟨h.1.1,h.1.2,λl hl=>h.2 l hl⟩,λh=>⟨⟨h.aA,h.off⟩,λl hl=>h.bH l hl⟩⟩
def fL(n:ah)(l:List aq)(bz:Int)(ab:Int)(aK:List av):Option ((List aq)×Bool):=
 if ZcQ n=YY/\l.length<=1048000/\aK.length<=1048576 then cx n l bz ab aK else YX
theorem ZgA{vs:Array Value}{x0 x1 x2 x3 x4:Value}(h:vs.size=5)(h0:vs[0]?=YW x0)(h1:vs[1]?=YW x1)(h2:vs[2]?=YW x2)(h3:vs[3]?=YW x3)(h4:vs[4]?=YW x4):vs=#[x0,x1,x2,x3,x4]:=by
 grind
theorem Bg(n:ah)(l:List aq)(bz:Int)(ab:Int)(aK:List av){r:(List aq)×Bool}(H:fL n l bz ab aK=YW r):fa prog 138 [.ag (bB n),.sl (l.map aC),vi bz,vi ab,.sl (aK.map aU)] [] (.tu [.ms 0,vb r.2]) [YW ⟨.of 147,4,r.1.map aC⟩]:=by
 unfold fL at H
 split at H
 case isFalse=>cases H
 rename_i hok;obtain⟨hf,hln,hwn⟩:=hok;have hf:=CB.1 hf;intro S β w vs ω hk hl ha;obtain⟨x0,q0,r0⟩:=ha 0 _ rfl;obtain⟨x1,q1,r1⟩:=ha 1 _ rfl;obtain⟨x2,q2,r2⟩:=ha 2 _ rfl;obtain⟨x3,q3,r3⟩:=ha 3 _ rfl;obtain⟨x4,q4,r4⟩:=ha 4 _ rfl;obtain rfl:=ZgA hl q0 q1 q2 q3 q4;obtain rfl:=Mx r2;obtain rfl:=Mx r3;obtain⟨us,rfl,hul,uW,hur⟩:=r0.qx;have Zdd:us.size=3:=hul;have z0:us[0]?=YW us[0]:=V7 Yn;have z1:us[1]?=YW us[1]:=V7 Yn;have z2:us[2]?=YW us[2]:=V7 Yn;have hus:us=#[us[0],us[1],us[2]]:=Zel Zdd z0 z1 z2;have w0:=(hur 0 (.sl (n.aA.map bo)) _ rfl z0).uL;have w1:=(hur 1 (.sl (n.off.map aG)) _ rfl z1).uL;have w2:=Mx (hur 2 (vi n.change) _ rfl z2);have w3:=r1.uL;have w4:=r4.uL;have up:∀{p:PV} {x:Value},eI w S p x->eI w (SW w) p x:=λh=>h.ext (λb hb=>hk.sz b hb) λ_ _ _=>rfl
 obtain⟨A,wn,rfl,_,_,UN⟩:=Zba (id:av->av) (c:=aU) hk.sz w4;rw[List.map_id]at UN
 have Zfh:Calls prog 138 #[.agg #[us[0],us[1],I n.change],x1,I bz,I ab,.slice A aK.length wn] w λe w'=>∃v ys ok,e=.returned (.tuple #[v,.bool ok])/\Own w' w.heap.size 147 v ys/\Up w w'/\cx n l bz ab aK=YW (ys,ok):=by
  by_cases wU:cu n l=YY/\aK.length<=20
  ·exact Ru hf hk.KX (up w0) (up w1) hln (up w3) bz ab hwn UN wU.1 wU.2
  ·refine(Vf hf hk.KX (up w0) (up w1) hln (up w3) bz ab hwn UN wU).mono ?_
   rintro e w' ⟨v,rfl,ho,hu⟩;refine⟨v,l,YZ,rfl,ho,hu,?_⟩;unfold cx;rw[qY Yn,VT,iJ hf Yn,VT]
   by_cases hb:cu n l=YY
   all_goals grind
 rw[hus,w2];refine Zfh.mono ?_;rintro e w' ⟨v,ys,ok,rfl,ho,hu,AF⟩;rw[AF]at H
 obtain rfl:=VX H;obtain⟨E',h1,h2,h3,h4,h5⟩:=wA (c:=aC) hk ho hu (λx=>⟨rfl,λj p hj=>by
  obtain⟨u,uW,xM⟩:=zk.aQ (c:=aC) (g:=(id:aq->aq)) x j p hj;exact⟨u,uW,eZ.one _ u (VW uW),λw E=>by rw[xM];exact Kb _ (eZ.one _ u (VW uW))⟩⟩)
 refine⟨_,E',rfl,h1,h2,h3,h4,.tu _ _ rfl λj p x hp hx=>?_⟩
 match j with
 |0=>grind
 |1=>obtain rfl:_=p:=VX hp
     obtain rfl:_=x:=VX hx;exact Kb _ rfl
 |j+2=>grind
instance (n:ah)(l:List aq)(bz:Int)(ab:Int)(aK:List av):CT prog (fL n l bz ab aK):=⟨138,[.ag (bB n),.sl (l.map aC),vi bz,vi ab,.sl (aK.map aU)],[],λr=>.tu [.ms 0,vb r.2],λr=>[YW ⟨.of 147,4,r.1.map aC⟩],Bg n l bz ab aK⟩
end Go.Proofs.YtdilaemengjipaaGreatDoor
namespace Go.Proofs.YtdilaemengjipaaGreatDoor
set_option maxRecDepth 10000
open Go.RowKit
def fx(w:ax)(cK:ByteArray)(aY:ByteArray)(aw:Int)(ab:Int):Option (ax×Int×Bool):=
 (dL w).bind λy1=>
 (ig w).bind λy2=>
 cond (!y2)
 (YW (y1,0,YZ))
 (cond (Y0 (30<=(w.aj.length:Int)))
 (YW (y1,0,YZ))
 (cond (Y0 (cK=aY))
 (YW (y1,0,YZ))
 ((aX aw 1 3).bind λy3=>
 cond (!y3)
 (YW (y1,0,YZ))
 ((aX ab 1 30000).bind λy4=>
 cond (!y4)
 (YW (y1,0,YZ))
 ((iG w.aa w.au w.ae cK aY (aM (w.now+1)) ab).bind λy5=>
 cond (!y5.2)
 (YW (y1,0,YZ))
 ((fL w.aa w.au (aM ((w.aj.length:Int)+1)) ab y5.1).bind λy6=>
 cond (!y6.2)
 (YW (y1,0,YZ))
 ((fX w.aa aw cK aY (aM (w.now+1))).bind λy7=>
 (fh y5.1).bind λy8=>
 (cr (bn ((y1.aj:List az).length+([(⟨cK,aY,aw,ab,w.now,y7,y8,0,1,cK,0⟩:az)]:List az).length) 128)).bind λ_=>
 (A8 (.un::vs cK::(U 3 (.be 0 0 0::(U 4 (.be 1 0 0::.un::.un::.be 2 0 0::vi (aM ((w.aj.length:Int)+1))::(U 102 [])))))) [YW ⟨.of 33,10,[[.sl (w.aa.aA.map bo),.sl (w.aa.off.map aG),vi w.aa.change,.sl (w.aj.map aZ),.sl (w.au.map aC),.sl (w.ae.map aU),vi w.now,.sl (w.aN.map bw),.sl (w.skip.map aG),vi w.bg]]⟩,YW ⟨.of 33,10,[[.v (.slice YX 0 0),.v (.slice YX 0 0),vi 0,.v (.slice YX 0 0),.v (.slice YX 0 0),.v (.slice YX 0 0),vi 0,.v (.slice YX 0 0),.v (.slice YX 0 0),vi 0]]⟩,YW ⟨.of 33,10,[[.ms 3,.ms 4,vi y1.aa.change,.ms 5,.ms 6,.ms 7,vi y1.now,.ms 8,.ms 9,vi y1.bg]]⟩,YW ⟨.of 144,6,y1.aa.aA.map bo⟩,YW ⟨.of 3,1,y1.aa.off.map aG⟩,YW ⟨⟨94,YW 46⟩,11,((y1.aj:List az)++[(⟨cK,aY,aw,ab,w.now,y7,y8,0,1,cK,0⟩:az)]).map aZ⟩,YW ⟨.of 147,4,y6.1.map aC⟩,YW ⟨.of 46,2,y1.ae.map aU⟩,YW ⟨.of 151,6,y1.aN.map bw⟩,YW ⟨.of 3,1,y1.skip.map aG⟩]).bind λ_=>
 (bq [2,3,4,5,6,7,8,9]).bind λ_=>
 (ft (⟨y1.aa,((y1.aj:List az)++[(⟨cK,aY,aw,ab,w.now,y7,y8,0,1,cK,0⟩:az)]),y6.1,y1.ae,y1.now,y1.aN,y1.skip,y1.bg⟩:ax) (⟨(aM ((w.aj.length:Int)+1)),w.now,1,cK,(⟨0,0⟩:av)⟩:br)).bind λy9=>
 YW (y9,(aM ((w.aj.length:Int)+1)),YY))))))))
instance (w:ax)(cK:ByteArray)(aY:ByteArray)(aw:Int)(ab:Int):CT prog (fx w cK aY aw ab):=⟨73,[.ag (gK w),vs cK,vs aY,vi aw,vi ab],[],λr=>.tu [.ag [.ms 0,.ms 1,vi r.1.aa.change,.ms 2,.ms 3,.ms 4,vi r.1.now,.ms 5,.ms 6,vi r.1.bg],vi r.2.1,vb r.2.2],λr=>[YW ⟨.of 144,6,r.1.aa.aA.map bo⟩,YW ⟨.of 3,1,r.1.aa.off.map aG⟩,YW ⟨⟨94,YW 46⟩,11,r.1.aj.map aZ⟩,YW ⟨.of 147,4,r.1.au.map aC⟩,YW ⟨.of 46,2,r.1.ae.map aU⟩,YW ⟨.of 151,6,r.1.aN.map bw⟩,YW ⟨.of 3,1,r.1.skip.map aG⟩],ck (fx.eq_1 ..) func73 ntmps73 results73⟩
def jB(w:ah)(o:az):Option ByteArray:=
 cond (Y0 (o.state=2))
 ((aB o.aK o.aO).bind λy1=>
 (aB w.aA y1.bH).bind λy2=>
 YW y2.aY)
 (YW o.place)
instance (w:ah)(o:az):CT prog (jB w o):=⟨203,[.ag [.sl (w.aA.map bo),.sl (w.off.map aG),vi w.change,.un,.un,.un,.un,.un,.un,.un],.ag (aZ o)],[],λr=>vs r,λr=>[],cw (jB.eq_1 ..) func203 ntmps203 results203⟩
def iC(w:ax)(id:Int)(y2:Int)(s0:Int×(List aq)):Option ((Int×(List aq))⊕(List aq)):=
 cond (Y0 (s0.1<(w.au.length:Int)))
 ((aB w.au s0.1).bind λy3=>
 cond (!decide (y3.bz=id))
 ((cr (bn ((s0.2:List aq).length+([y3]:List aq).length) 32)).bind λ_=>
 YW (.inl ((aM (s0.1+1)),((s0.2:List aq)++[y3]))))
 ((wQ w.aj (aM (id-1))).bind λy4=>
 (cr (fJ y2 (y4.aK.length:Int) y4.aK.length)).bind λ_=>
 (fb (cM y4.aK y2 (y4.aK.length:Int)) y3.bk).bind λy5=>
 cond (!y5)
 ((cr (bn ((s0.2:List aq).length+([y3]:List aq).length) 32)).bind λ_=>
 YW (.inl ((aM (s0.1+1)),((s0.2:List aq)++[y3]))))
 (YW (.inl ((aM (s0.1+1)),s0.2)))))
 (YW (.inr s0.2))
instance (w:ax)(id:Int)(y2:Int):bp (iC w id y2):=⟨λs0=>(.be 0 0 0::vi id::.un::.un::.be 3 (Wm (aM (id-1))) 0::vi y2::.ms 8::(U 22 (.ms 4::vi (w.au.length:Int)::vi s0.1::(U 132 [])))),λs0=>[YW ⟨.of 33,10,[[.ms 1,.ms 2,vi w.aa.change,.ms 3,.ms 4,.ms 5,vi w.now,.ms 6,.ms 7,vi w.bg]]⟩,YW ⟨.of 144,6,w.aa.aA.map bo⟩,YW ⟨.of 3,1,w.aa.off.map aG⟩,YW ⟨⟨94,YW 46⟩,11,w.aj.map aZ⟩,YW ⟨.of 147,4,w.au.map aC⟩,YW ⟨.of 46,2,w.ae.map aU⟩,YW ⟨.of 151,6,w.aN.map bw⟩,YW ⟨.of 3,1,w.skip.map aG⟩,YW ⟨.of 147,4,s0.2.map aC⟩]⟩
def fm(w:ax)(id:Int):Option ax:=
 (aB w.aj (aM (id-1))).bind λy1=>
 (ic y1).bind λy2=>
 (aE (iC w id y2) NN (0,([]:List aq))).bind (λo0=>
 (wQ w.aj (aM (id-1))).bind λy6=>
 (cr (fJ 0 y2 y6.aK.length)).bind λ_=>
 (fh (cM y6.aK 0 y2)).bind λy7=>
 (wQ w.aj (aM (id-1))).bind λy8=>
 cond (Y0 (0<y2))
 ((aB y7 (aM (y2-1))).bind λy9=>
 (di w.aa y9).bind λeh=>
 (wQ w.aj (aM (id-1))).bind λlr=>
 (jB w.aa (⟨y8.ar,y8.aY,y8.aw,y8.ab,y8.aQ,y8.eJ,y7,y8.aO,y8.state,y8.place,y8.bQ⟩:az)).bind λoV=>
 (wQ w.aj (aM (id-1))).bind λoD=>
 (iG w.aa o0 w.ae oV y8.aY (if(aM (eh+w.aa.change)) > (aM (w.now+1))then(aM (eh+w.aa.change))else(aM (w.now+1))) y8.ab).bind λnF=>
 cond (!nF.2)
 (YW (⟨w.aa,(w.aj.set (Wm (aM (id-1))) (⟨y8.ar,y8.aY,y8.aw,y8.ab,y8.aQ,y8.eJ,y7,y8.aO,y8.state,y8.place,y8.bQ⟩:az)),o0,w.ae,w.now,w.aN,w.skip,w.bg⟩:ax))
 ((wQ w.aj (aM (id-1))).bind λpZ=>
 (fL w.aa o0 id y8.ab nF.1).bind λod=>
 cond od.2
 ((wQ w.aj (aM (id-1))).bind λrP=>
 (cr (bn ((y7:List av).length+(nF.1:List av).length) 16)).bind λ_=>
 YW (⟨w.aa,(w.aj.set (Wm (aM (id-1))) (⟨y8.ar,y8.aY,y8.aw,y8.ab,y8.aQ,y8.eJ,((y7:List av)++nF.1),y8.aO,y8.state,y8.place,y8.bQ⟩:az)),od.1,w.ae,w.now,w.aN,w.skip,w.bg⟩:ax))
 (YW (⟨w.aa,(w.aj.set (Wm (aM (id-1))) (⟨y8.ar,y8.aY,y8.aw,y8.ab,y8.aQ,y8.eJ,y7,y8.aO,y8.state,y8.place,y8.bQ⟩:az)),o0,w.ae,w.now,w.aN,w.skip,w.bg⟩:ax))))
 ((jB w.aa (⟨y8.ar,y8.aY,y8.aw,y8.ab,y8.aQ,y8.eJ,y7,y8.aO,y8.state,y8.place,y8.bQ⟩:az)).bind λva=>
 (wQ w.aj (aM (id-1))).bind λwJ=>
 (iG w.aa o0 w.ae va y8.aY (aM (w.now+1)) y8.ab).bind λD5=>
 cond (!D5.2)
 (YW (⟨w.aa,(w.aj.set (Wm (aM (id-1))) (⟨y8.ar,y8.aY,y8.aw,y8.ab,y8.aQ,y8.eJ,y7,y8.aO,y8.state,y8.place,y8.bQ⟩:az)),o0,w.ae,w.now,w.aN,w.skip,w.bg⟩:ax))
 ((wQ w.aj (aM (id-1))).bind λHj=>
 (fL w.aa o0 id y8.ab D5.1).bind λza=>
 cond za.2
 ((wQ w.aj (aM (id-1))).bind λBp=>
 (cr (bn ((y7:List av).length+(D5.1:List av).length) 16)).bind λ_=>
 YW (⟨w.aa,(w.aj.set (Wm (aM (id-1))) (⟨y8.ar,y8.aY,y8.aw,y8.ab,y8.aQ,y8.eJ,((y7:List av)++D5.1),y8.aO,y8.state,y8.place,y8.bQ⟩:az)),za.1,w.ae,w.now,w.aN,w.skip,w.bg⟩:ax))
 (YW (⟨w.aa,(w.aj.set (Wm (aM (id-1))) (⟨y8.ar,y8.aY,y8.aw,y8.ab,y8.aQ,y8.eJ,y7,y8.aO,y8.state,y8.place,y8.bQ⟩:az)),o0,w.ae,w.now,w.aN,w.skip,w.bg⟩:ax)))))
instance (w:ax)(id:Int):CT prog (fm w id):=⟨147,[.be 0 0 0,vi id],[YW ⟨.of 33,10,[[.ms 1,.ms 2,vi w.aa.change,.ms 3,.ms 4,.ms 5,vi w.now,.ms 6,.ms 7,vi w.bg]]⟩,YW ⟨.of 144,6,w.aa.aA.map bo⟩,YW ⟨.of 3,1,w.aa.off.map aG⟩,YW ⟨⟨94,YW 46⟩,11,w.aj.map aZ⟩,YW ⟨.of 147,4,w.au.map aC⟩,YW ⟨.of 46,2,w.ae.map aU⟩,YW ⟨.of 151,6,w.aN.map bw⟩,YW ⟨.of 3,1,w.skip.map aG⟩],λr=>.tu [],λr=>[YW ⟨.of 33,10,[[.ms 1,.ms 2,vi r.aa.change,.ms 3,.ms 8,.ms 5,vi r.now,.ms 6,.ms 7,vi r.bg]]⟩,YW ⟨.of 144,6,r.aa.aA.map bo⟩,YW ⟨.of 3,1,r.aa.off.map aG⟩,YW ⟨⟨94,YW 46⟩,11,r.aj.map aZ⟩,YX,YW ⟨.of 46,2,r.ae.map aU⟩,YW ⟨.of 151,6,r.aN.map bw⟩,YW ⟨.of 3,1,r.skip.map aG⟩,YW ⟨.of 147,4,r.au.map aC⟩],ck (fm.eq_1 ..) func147 ntmps147 results147⟩
def fy(t:av)(y1:ax)(s0:Int×Int×Int×Int×(List bP)×(List Int)×(List az)×(List aq)×(List av)×(List br)×(List Int)):Option ((Int×Int×Int×Int×(List bP)×(List Int)×(List az)×(List aq)×(List av)×(List br)×(List Int))⊕(Int×Int×Int×(List bP)×(List Int)×(List az)×(List aq)×(List av)×(List br)×(List Int))):=
 cond (Y0 (s0.1<(y1.aj.length:Int)))
 ((aB s0.2.2.2.2.2.2.1 s0.1).bind λy6=>
 (ic y6).bind λy7=>
 (cr (fJ y7 (y6.aK.length:Int) y6.aK.length)).bind λ_=>
 (fb (cM y6.aK y7 (y6.aK.length:Int)) t).bind λy8=>
 cond y8
 ((bq [2,3,4,5,6,7,8,9]).bind λ_=>
 (fm (⟨(⟨s0.2.2.2.2.1,s0.2.2.2.2.2.1,s0.2.1⟩:ah),s0.2.2.2.2.2.2.1,s0.2.2.2.2.2.2.2.1,s0.2.2.2.2.2.2.2.2.1,s0.2.2.1,s0.2.2.2.2.2.2.2.2.2.1,s0.2.2.2.2.2.2.2.2.2.2,s0.2.2.2.1⟩:ax) (aM (s0.1+1))).bind λy9=>
 YW (.inl ((aM (s0.1+1)),y9.aa.change,y9.now,y9.bg,y9.aa.aA,y9.aa.off,y9.aj,y9.au,y9.ae,y9.aN,y9.skip)))
 (YW (.inl ((aM (s0.1+1)),s0.2.1,s0.2.2.1,s0.2.2.2.1,s0.2.2.2.2.1,s0.2.2.2.2.2.1,s0.2.2.2.2.2.2.1,s0.2.2.2.2.2.2.2.1,s0.2.2.2.2.2.2.2.2.1,s0.2.2.2.2.2.2.2.2.2.1,s0.2.2.2.2.2.2.2.2.2.2))))
 (YW (.inr (s0.2.1,s0.2.2.1,s0.2.2.2.1,s0.2.2.2.2.1,s0.2.2.2.2.2.1,s0.2.2.2.2.2.2.1,s0.2.2.2.2.2.2.2.1,s0.2.2.2.2.2.2.2.2.1,s0.2.2.2.2.2.2.2.2.2.1,s0.2.2.2.2.2.2.2.2.2.2)))
instance (t:av)(y1:ax):bp (fy t y1):=⟨λs0=>(U 3 (.be 0 0 0::.be 1 0 0::.un::.be 2 0 0::(U 44 (vi (y1.aj.length:Int)::vi s0.1::(U 19 []))))),λs0=>[YW ⟨.of 46,2,[[vi t.bH,vi t.day]]⟩,YW ⟨.of 33,10,[[.v (.slice YX 0 0),.v (.slice YX 0 0),vi 0,.v (.slice YX 0 0),.v (.slice YX 0 0),.v (.slice YX 0 0),vi 0,.v (.slice YX 0 0),.v (.slice YX 0 0),vi 0]]⟩,YW ⟨.of 33,10,[[.ms 3,.ms 4,vi s0.2.1,.ms 5,.ms 6,.ms 7,vi s0.2.2.1,.ms 8,.ms 9,vi s0.2.2.2.1]]⟩,YW ⟨.of 144,6,s0.2.2.2.2.1.map bo⟩,YW ⟨.of 3,1,s0.2.2.2.2.2.1.map aG⟩,YW ⟨⟨94,YW 46⟩,11,s0.2.2.2.2.2.2.1.map aZ⟩,YW ⟨.of 147,4,s0.2.2.2.2.2.2.2.1.map aC⟩,YW ⟨.of 46,2,s0.2.2.2.2.2.2.2.2.1.map aU⟩,YW ⟨.of 151,6,s0.2.2.2.2.2.2.2.2.2.1.map bw⟩,YW ⟨.of 3,1,s0.2.2.2.2.2.2.2.2.2.2.map aG⟩]⟩
def kH(w:ax)(t:av):Option (ax×Bool):=
 (dL w).bind λy1=>
 (ig w).bind λy2=>
 cond (!y2)
 (YW (y1,YZ))
 ((dY w.aa t).bind λy3=>
 cond (!y3)
 (YW (y1,YZ))
 ((dq w.aa t).bind λy4=>
 cond (Y0 (y4<=w.now))
 (YW (y1,YZ))
 ((fb w.ae t).bind λy5=>
 cond y5
 (YW (y1,YZ))
 (cond (Y0 (20<=(w.ae.length:Int)))
 (YW (y1,YZ))
 ((cr (bn ((y1.ae:List av).length+([t]:List av).length) 16)).bind λ_=>
 (aE (fy t y1) NN (0,y1.aa.change,y1.now,y1.bg,y1.aa.aA,y1.aa.off,y1.aj,y1.au,((y1.ae:List av)++[t]),y1.aN,y1.skip)).bind (λo0=>
 YW ((⟨(⟨o0.2.2.2.1,o0.2.2.2.2.1,o0.1⟩:ah),o0.2.2.2.2.2.1,o0.2.2.2.2.2.2.1,o0.2.2.2.2.2.2.2.1,o0.2.1,o0.2.2.2.2.2.2.2.2.1,o0.2.2.2.2.2.2.2.2.2,o0.2.2.1⟩:ax),YY)))))))
instance (w:ax)(t:av):CT prog (kH w t):=⟨78,[.ag (gK w),.ag (aU t)],[],λr=>.tu [.ag [.ms 0,.ms 1,vi r.1.aa.change,.ms 2,.ms 3,.ms 4,vi r.1.now,.ms 5,.ms 6,vi r.1.bg],vb r.2],λr=>[YW ⟨.of 144,6,r.1.aa.aA.map bo⟩,YW ⟨.of 3,1,r.1.aa.off.map aG⟩,YW ⟨⟨94,YW 46⟩,11,r.1.aj.map aZ⟩,YW ⟨.of 147,4,r.1.au.map aC⟩,YW ⟨.of 46,2,r.1.ae.map aU⟩,YW ⟨.of 151,6,r.1.aN.map bw⟩,YW ⟨.of 3,1,r.1.skip.map aG⟩],ck (kH.eq_1 ..) func78 ntmps78 results78⟩
def lS(w:ax)(s0:Int×(List Int)):Option ((Int×(List Int))⊕(List Int)):=
 cond (Y0 (s0.1<(w.aj.length:Int)))
 ((aB w.aj s0.1).bind λy2=>
 (gw w y2).bind λy3=>
 cond y3
 ((cr (bn ((s0.2:List Int).length+([(aM (s0.1+1))]:List Int).length) 8)).bind λ_=>
 YW (.inl ((aM (s0.1+1)),((s0.2:List Int)++[(aM (s0.1+1))]))))
 (YW (.inl ((aM (s0.1+1)),s0.2))))
 (YW (.inr s0.2))
instance (w:ax):bp (lS w):=⟨λs0=>(.un::.be 0 0 0::.un::.ms 1::(U 8 (.sl (w.aj.map aZ)::vi (w.aj.length:Int)::vi s0.1::(U 14 [])))),λs0=>[YW ⟨.of 33,10,[[.sl (w.aa.aA.map bo),.sl (w.aa.off.map aG),vi w.aa.change,.sl (w.aj.map aZ),.sl (w.au.map aC),.sl (w.ae.map aU),vi w.now,.sl (w.aN.map bw),.sl (w.skip.map aG),vi w.bg]]⟩,YW ⟨.of 3,1,s0.2.map aG⟩]⟩
def lR(w:ax):Option (List Int):=
 (ig w).bind λy1=>
 cond (!y1)
 (YW ([]:List Int))
 ((aE (lS w) NN (0,([]:List Int))).bind (λo0=>
 YW o0))
instance (w:ax):CT prog (lR w):=⟨148,[.ag (gK w)],[],λr=>.ms 0,λr=>[YW ⟨.of 3,1,r.map aG⟩],cw (lR.eq_1 ..) func148 ntmps148 results148⟩
def ee(y2:(List Int))(s0:Int×Int×Int×Int×Int×(List bP)×(List Int)×(List az)×(List aq)×(List av)×(List br)×(List Int)):Option ((Int×Int×Int×Int×Int×(List bP)×(List Int)×(List az)×(List aq)×(List av)×(List br)×(List Int))⊕(Int×Int×Int×Int×(List bP)×(List Int)×(List az)×(List aq)×(List av)×(List br)×(List Int))):=
 cond (Y0 (s0.2.1<(y2.length:Int)))
 ((aB y2 s0.2.1).bind λy3=>
 (bq [1,2,3,4,5,6,7,8]).bind λ_=>
 (fm (⟨(⟨s0.2.2.2.2.2.1,s0.2.2.2.2.2.2.1,s0.2.2.1⟩:ah),s0.2.2.2.2.2.2.2.1,s0.2.2.2.2.2.2.2.2.1,s0.2.2.2.2.2.2.2.2.2.1,s0.2.2.2.1,s0.2.2.2.2.2.2.2.2.2.2.1,s0.2.2.2.2.2.2.2.2.2.2.2,s0.2.2.2.2.1⟩:ax) y3).bind λy4=>
 (aB y4.aj (aM (y3-1))).bind λy5=>
 (gw y4 y5).bind λy6=>
 cond (!y6)
 (YW (.inl ((aM (s0.1+1)),(aM (s0.2.1+1)),y4.aa.change,y4.now,y4.bg,y4.aa.aA,y4.aa.off,y4.aj,y4.au,y4.ae,y4.aN,y4.skip)))
 (YW (.inl (s0.1,(aM (s0.2.1+1)),y4.aa.change,y4.now,y4.bg,y4.aa.aA,y4.aa.off,y4.aj,y4.au,y4.ae,y4.aN,y4.skip))))
 (YW (.inr (s0.1,s0.2.2.1,s0.2.2.2.1,s0.2.2.2.2.1,s0.2.2.2.2.2.1,s0.2.2.2.2.2.2.1,s0.2.2.2.2.2.2.2.1,s0.2.2.2.2.2.2.2.2.1,s0.2.2.2.2.2.2.2.2.2.1,s0.2.2.2.2.2.2.2.2.2.2.1,s0.2.2.2.2.2.2.2.2.2.2.2)))
instance (y2:(List Int)):bp (ee y2):=⟨λs0=>(.un::.un::.be 0 0 0::.un::.be 1 0 0::vi s0.1::(U 5 (.ms 9::vi (y2.length:Int)::vi s0.2.1::(U 19 [])))),λs0=>[YW ⟨.of 33,10,[[.v (.slice YX 0 0),.v (.slice YX 0 0),vi 0,.v (.slice YX 0 0),.v (.slice YX 0 0),.v (.slice YX 0 0),vi 0,.v (.slice YX 0 0),.v (.slice YX 0 0),vi 0]]⟩,YW ⟨.of 33,10,[[.ms 2,.ms 3,vi s0.2.2.1,.ms 4,.ms 5,.ms 6,vi s0.2.2.2.1,.ms 7,.ms 8,vi s0.2.2.2.2.1]]⟩,YW ⟨.of 144,6,s0.2.2.2.2.2.1.map bo⟩,YW ⟨.of 3,1,s0.2.2.2.2.2.2.1.map aG⟩,YW ⟨⟨94,YW 46⟩,11,s0.2.2.2.2.2.2.2.1.map aZ⟩,YW ⟨.of 147,4,s0.2.2.2.2.2.2.2.2.1.map aC⟩,YW ⟨.of 46,2,s0.2.2.2.2.2.2.2.2.2.1.map aU⟩,YW ⟨.of 151,6,s0.2.2.2.2.2.2.2.2.2.2.1.map bw⟩,YW ⟨.of 3,1,s0.2.2.2.2.2.2.2.2.2.2.2.map aG⟩,YW ⟨.of 3,1,y2.map aG⟩]⟩
def iQ(w:ax):Option (ax×Int):=
 (dL w).bind λy1=>
 (lR w).bind λy2=>
 (aE (ee y2) NN (0,0,y1.aa.change,y1.now,y1.bg,y1.aa.aA,y1.aa.off,y1.aj,y1.au,y1.ae,y1.aN,y1.skip)).bind (λo0=>
 YW ((⟨(⟨o0.2.2.2.2.1,o0.2.2.2.2.2.1,o0.2.1⟩:ah),o0.2.2.2.2.2.2.1,o0.2.2.2.2.2.2.2.1,o0.2.2.2.2.2.2.2.2.1,o0.2.2.1,o0.2.2.2.2.2.2.2.2.2.1,o0.2.2.2.2.2.2.2.2.2.2,o0.2.2.2.1⟩:ax),o0.1))
instance (w:ax):CT prog (iQ w):=⟨79,[.ag (gK w)],[],λr=>.tu [.ag [.ms 0,.ms 1,vi r.1.aa.change,.ms 2,.ms 3,.ms 4,vi r.1.now,.ms 5,.ms 6,vi r.1.bg],vi r.2],λr=>[YW ⟨.of 144,6,r.1.aa.aA.map bo⟩,YW ⟨.of 3,1,r.1.aa.off.map aG⟩,YW ⟨⟨94,YW 46⟩,11,r.1.aj.map aZ⟩,YW ⟨.of 147,4,r.1.au.map aC⟩,YW ⟨.of 46,2,r.1.ae.map aU⟩,YW ⟨.of 151,6,r.1.aN.map bw⟩,YW ⟨.of 3,1,r.1.skip.map aG⟩],ck (iQ.eq_1 ..) func79 ntmps79 results79⟩
def nR(o:aF)(p:aL):Option (Int×aF):=
 (mH o.aS o.aT p).bind λy1=>
 cond (!y1.2)
 (YW (2,o))
 (cond (Y0 (y1.1=0))
 (YW (2,o))
 ((oe 8 []).bind λ_=>
 (fx o.world p.ar p.label.aY p.label.aw p.ab).bind λy2=>
 cond (!y2.2.2)
 (YW (3,o))
 ((kA o.lines y2.2.1 y1.1 o.world.now).bind λy3=>
 cond (!decide (y3.2=0))
 (YW (4,o))
 ((fN p).bind λy4=>
 (cr (bn ((o.aH:List aL).length+([y4]:List aL).length) 88)).bind λ_=>
 YW (0,(⟨y2.1,o.aS,o.aT,o.aI,((o.aH:List aL)++[y4]),y3.1,o.aD⟩:aF))))))
instance (o:aF)(p:aL):CT prog (nR o p):=⟨27,[.be 0 0 0,.ag (bA p)],[YW ⟨.of 40,16,[[.ms 1,.ms 2,vi o.world.aa.change,.ms 3,.ms 4,.ms 5,vi o.world.now,.ms 6,.ms 7,vi o.world.bg,.ms 8,.ms 9,.ms 10,.ms 11,.ms 12,.ms 13]]⟩,YW ⟨.of 144,6,o.world.aa.aA.map bo⟩,YW ⟨.of 3,1,o.world.aa.off.map aG⟩,YW ⟨⟨94,YW 46⟩,11,o.world.aj.map aZ⟩,YW ⟨.of 147,4,o.world.au.map aC⟩,YW ⟨.of 46,2,o.world.ae.map aU⟩,YW ⟨.of 151,6,o.world.aN.map bw⟩,YW ⟨.of 3,1,o.world.skip.map aG⟩,YW ⟨.of 78,2,o.aS.map cG⟩,YW ⟨.of 81,4,o.aT.map cy⟩,YW ⟨.of 3,1,o.aI.map aG⟩,YW ⟨⟨44,YW 3⟩,7,o.aH.map bA⟩,YW ⟨.of 85,4,o.lines.map bK⟩,YW ⟨⟨48,YW 3⟩,13,o.aD.map cX⟩],λr=>vi r.1,λr=>[YW ⟨.of 40,16,[[.ms 14,.ms 15,vi r.2.world.aa.change,.ms 16,.ms 17,.ms 18,vi r.2.world.now,.ms 19,.ms 20,vi r.2.world.bg,.ms 8,.ms 9,.ms 10,.ms 21,.ms 22,.ms 13]]⟩,YX,YX,YX,YX,YX,YX,YX,YW ⟨.of 78,2,r.2.aS.map cG⟩,YW ⟨.of 81,4,r.2.aT.map cy⟩,YW ⟨.of 3,1,r.2.aI.map aG⟩,YX,YX,YW ⟨⟨48,YW 3⟩,13,r.2.aD.map cX⟩,YW ⟨.of 144,6,r.2.world.aa.aA.map bo⟩,YW ⟨.of 3,1,r.2.world.aa.off.map aG⟩,YW ⟨⟨94,YW 46⟩,11,r.2.world.aj.map aZ⟩,YW ⟨.of 147,4,r.2.world.au.map aC⟩,YW ⟨.of 46,2,r.2.world.ae.map aU⟩,YW ⟨.of 151,6,r.2.world.aN.map bw⟩,YW ⟨.of 3,1,r.2.world.skip.map aG⟩,YW ⟨⟨44,YW 3⟩,7,r.2.aH.map bA⟩,YW ⟨.of 85,4,r.2.lines.map bK⟩],ck (nR.eq_1 ..) func27 ntmps27 results27⟩
def ko(o:aF)(a:ba):Option (Int×aF):=
 cond (Y0 ((o.world.aj.length:Int)<a.order))
 (YW (4,o))
 ((aB o.world.aj (aM (a.order-1))).bind λy1=>
 (nM o.lines a.order a.bC o.world.now).bind λy2=>
 cond (Y0 (a.kind=6))
 (cond (!decide (y1.state=3))
 (YW (4,o))
 ((kE o.lines a.order y1.eJ y1.bQ o.aI o.world.now).bind λy3=>
 cond (!decide (y3.2=0))
 (YW (4,o))
 (YW (0,(⟨o.world,o.aS,o.aT,o.aI,o.aH,y3.1,o.aD⟩:aF)))))
 (cond (!decide (y2.2=0))
 (YW (4,o))
 (YW (0,(⟨o.world,o.aS,o.aT,o.aI,o.aH,y2.1,o.aD⟩:aF)))))
instance (o:aF)(a:ba):CT prog (ko o a):=⟨28,[.be 0 0 0,.ag (cX a)],[YW ⟨.of 40,16,[[.ms 1,.ms 2,vi o.world.aa.change,.ms 3,.ms 4,.ms 5,vi o.world.now,.ms 6,.ms 7,vi o.world.bg,.ms 8,.ms 9,.ms 10,.ms 11,.ms 12,.ms 13]]⟩,YW ⟨.of 144,6,o.world.aa.aA.map bo⟩,YW ⟨.of 3,1,o.world.aa.off.map aG⟩,YW ⟨⟨94,YW 46⟩,11,o.world.aj.map aZ⟩,YW ⟨.of 147,4,o.world.au.map aC⟩,YW ⟨.of 46,2,o.world.ae.map aU⟩,YW ⟨.of 151,6,o.world.aN.map bw⟩,YW ⟨.of 3,1,o.world.skip.map aG⟩,YW ⟨.of 78,2,o.aS.map cG⟩,YW ⟨.of 81,4,o.aT.map cy⟩,YW ⟨.of 3,1,o.aI.map aG⟩,YW ⟨⟨44,YW 3⟩,7,o.aH.map bA⟩,YW ⟨.of 85,4,o.lines.map bK⟩,YW ⟨⟨48,YW 3⟩,13,o.aD.map cX⟩],λr=>vi r.1,λr=>[YW ⟨.of 40,16,[[.ms 1,.ms 2,vi r.2.world.aa.change,.ms 3,.ms 4,.ms 5,vi r.2.world.now,.ms 6,.ms 7,vi r.2.world.bg,.ms 8,.ms 9,.ms 10,.ms 11,.ms 14,.ms 13]]⟩,YW ⟨.of 144,6,r.2.world.aa.aA.map bo⟩,YW ⟨.of 3,1,r.2.world.aa.off.map aG⟩,YW ⟨⟨94,YW 46⟩,11,r.2.world.aj.map aZ⟩,YW ⟨.of 147,4,r.2.world.au.map aC⟩,YW ⟨.of 46,2,r.2.world.ae.map aU⟩,YW ⟨.of 151,6,r.2.world.aN.map bw⟩,YW ⟨.of 3,1,r.2.world.skip.map aG⟩,YW ⟨.of 78,2,r.2.aS.map cG⟩,YW ⟨.of 81,4,r.2.aT.map cy⟩,YW ⟨.of 3,1,r.2.aI.map aG⟩,YW ⟨⟨44,YW 3⟩,7,r.2.aH.map bA⟩,YX,YW ⟨⟨48,YW 3⟩,13,r.2.aD.map cX⟩,YW ⟨.of 85,4,r.2.lines.map bK⟩],ck (ko.eq_1 ..) func28 ntmps28 results28⟩
def lz(o:aF)(a:ba):Option (Int×aF):=
 cond (Y0 (a.kind=3))
 (cond (Y0 (a.bI<=o.world.now))
 (YW (6,o))
 ((oe 8 []).bind λ_=>
 (jS o.world a.bI).bind λy1=>
 YW (0,(⟨y1,o.aS,o.aT,o.aI,o.aH,o.lines,o.aD⟩:aF))))
 (cond (Y0 (a.kind=4))
 ((oe 8 []).bind λ_=>
 (kH o.world a.bk).bind λy2=>
 cond (!y2.2)
 (YW (6,o))
 (YW (0,(⟨y2.1,o.aS,o.aT,o.aI,o.aH,o.lines,o.aD⟩:aF))))
 (cond (Y0 (a.kind=5))
 ((iQ o.world).bind λy3=>
 cond (Y0 (y3.2=0))
 (YW (6,o))
 (YW (0,(⟨y3.1,o.aS,o.aT,o.aI,o.aH,o.lines,o.aD⟩:aF))))
 (YW (0,o))))
instance (o:aF)(a:ba):CT prog (lz o a):=⟨29,[.be 0 0 0,.ag (cX a)],[YW ⟨.of 40,16,[[.ms 1,.ms 2,vi o.world.aa.change,.ms 3,.ms 4,.ms 5,vi o.world.now,.ms 6,.ms 7,vi o.world.bg,.ms 8,.ms 9,.ms 10,.ms 11,.ms 12,.ms 13]]⟩,YW ⟨.of 144,6,o.world.aa.aA.map bo⟩,YW ⟨.of 3,1,o.world.aa.off.map aG⟩,YW ⟨⟨94,YW 46⟩,11,o.world.aj.map aZ⟩,YW ⟨.of 147,4,o.world.au.map aC⟩,YW ⟨.of 46,2,o.world.ae.map aU⟩,YW ⟨.of 151,6,o.world.aN.map bw⟩,YW ⟨.of 3,1,o.world.skip.map aG⟩,YW ⟨.of 78,2,o.aS.map cG⟩,YW ⟨.of 81,4,o.aT.map cy⟩,YW ⟨.of 3,1,o.aI.map aG⟩,YW ⟨⟨44,YW 3⟩,7,o.aH.map bA⟩,YW ⟨.of 85,4,o.lines.map bK⟩,YW ⟨⟨48,YW 3⟩,13,o.aD.map cX⟩],λr=>vi r.1,λr=>[YW ⟨.of 40,16,[[.ms 14,.ms 15,vi r.2.world.aa.change,.ms 16,.ms 17,.ms 18,vi r.2.world.now,.ms 19,.ms 20,vi r.2.world.bg,.ms 8,.ms 9,.ms 10,.ms 11,.ms 12,.ms 13]]⟩,YX,YX,YX,YX,YX,YX,YX,YW ⟨.of 78,2,r.2.aS.map cG⟩,YW ⟨.of 81,4,r.2.aT.map cy⟩,YW ⟨.of 3,1,r.2.aI.map aG⟩,YW ⟨⟨44,YW 3⟩,7,r.2.aH.map bA⟩,YW ⟨.of 85,4,r.2.lines.map bK⟩,YW ⟨⟨48,YW 3⟩,13,r.2.aD.map cX⟩,YW ⟨.of 144,6,r.2.world.aa.aA.map bo⟩,YW ⟨.of 3,1,r.2.world.aa.off.map aG⟩,YW ⟨⟨94,YW 46⟩,11,r.2.world.aj.map aZ⟩,YW ⟨.of 147,4,r.2.world.au.map aC⟩,YW ⟨.of 46,2,r.2.world.ae.map aU⟩,YW ⟨.of 151,6,r.2.world.aN.map bw⟩,YW ⟨.of 3,1,r.2.world.skip.map aG⟩],ck (lz.eq_1 ..) func29 ntmps29 results29⟩
def gR(o:aF)(y1:ax)(y2:(List bc))(s0:Int×(List aL)):Option ((Int×(List aL))⊕(List aL)):=
 cond (Y0 (s0.1<(o.aH.length:Int)))
 ((aB o.aH s0.1).bind λy3=>
 (fN y3).bind λy4=>
 (cr (bn ((s0.2:List aL).length+([y4]:List aL).length) 88)).bind λ_=>
 YW (.inl ((aM (s0.1+1)),((s0.2:List aL)++[y4]))))
 (YW (.inr s0.2))
instance (o:aF)(y1:ax)(y2:(List bc)):bp (gR o y1 y2):=⟨λs0=>(.un::.be 0 0 0::.be 1 0 0::.be 2 0 0::(U 24 (.sl (o.aH.map bA)::vi (o.aH.length:Int)::vi s0.1::(U 27 [])))),λs0=>[YW ⟨.of 40,16,[[.sl (o.world.aa.aA.map bo),.sl (o.world.aa.off.map aG),vi o.world.aa.change,.sl (o.world.aj.map aZ),.sl (o.world.au.map aC),.sl (o.world.ae.map aU),vi o.world.now,.sl (o.world.aN.map bw),.sl (o.world.skip.map aG),vi o.world.bg,.sl (o.aS.map cG),.sl (o.aT.map cy),.sl (o.aI.map aG),.sl (o.aH.map bA),.sl (o.lines.map bK),.sl (o.aD.map cX)]]⟩,YW ⟨.of 40,16,[[.v (.slice YX 0 0),.v (.slice YX 0 0),vi 0,.v (.slice YX 0 0),.v (.slice YX 0 0),.v (.slice YX 0 0),vi 0,.v (.slice YX 0 0),.v (.slice YX 0 0),vi 0,.v (.slice YX 0 0),.v (.slice YX 0 0),.v (.slice YX 0 0),.v (.slice YX 0 0),.v (.slice YX 0 0),.v (.slice YX 0 0)]]⟩,YW ⟨.of 40,16,[[.ms 3,.ms 4,vi y1.aa.change,.ms 5,.ms 6,.ms 7,vi y1.now,.ms 8,.ms 9,vi y1.bg,.ms 10,.ms 11,.ms 12,.ms 13,.ms 14,.v (.slice YX 0 0)]]⟩,YW ⟨.of 144,6,y1.aa.aA.map bo⟩,YW ⟨.of 3,1,y1.aa.off.map aG⟩,YW ⟨⟨94,YW 46⟩,11,y1.aj.map aZ⟩,YW ⟨.of 147,4,y1.au.map aC⟩,YW ⟨.of 46,2,y1.ae.map aU⟩,YW ⟨.of 151,6,y1.aN.map bw⟩,YW ⟨.of 3,1,y1.skip.map aG⟩,YW ⟨.of 78,2,((([]:List ct):List ct)++o.aS).map cG⟩,YW ⟨.of 81,4,((([]:List bF):List bF)++o.aT).map cy⟩,YW ⟨.of 3,1,((([]:List Int):List Int)++o.aI).map aG⟩,YW ⟨⟨44,YW 3⟩,7,s0.2.map bA⟩,YW ⟨.of 85,4,y2.map bK⟩]⟩
def gS(o:aF)(y1:ax)(y2:(List bc))(o0:(List aL))(s1:Int×(List ba)):Option ((Int×(List ba))⊕(List ba)):=
 cond (Y0 (s1.1<(o.aD.length:Int)))
 ((aB o.aD s1.1).bind λy5=>
 (eE y5).bind λy6=>
 (cr (bn ((s1.2:List ba).length+([y6]:List ba).length) 136)).bind λ_=>
 YW (.inl ((aM (s1.1+1)),((s1.2:List ba)++[y6]))))
 (YW (.inr s1.2))
instance (o:aF)(y1:ax)(y2:(List bc))(o0:(List aL)):bp (gS o y1 y2 o0):=⟨λs1=>(.un::.un::.be 0 0 0::.be 1 0 0::(U 39 (.sl (o.aD.map cX)::vi (o.aD.length:Int)::vi s1.1::(U 12 [])))),λs1=>[YW ⟨.of 40,16,[[.v (.slice YX 0 0),.v (.slice YX 0 0),vi 0,.v (.slice YX 0 0),.v (.slice YX 0 0),.v (.slice YX 0 0),vi 0,.v (.slice YX 0 0),.v (.slice YX 0 0),vi 0,.v (.slice YX 0 0),.v (.slice YX 0 0),.v (.slice YX 0 0),.v (.slice YX 0 0),.v (.slice YX 0 0),.v (.slice YX 0 0)]]⟩,YW ⟨.of 40,16,[[.ms 2,.ms 3,vi y1.aa.change,.ms 4,.ms 5,.ms 6,vi y1.now,.ms 7,.ms 8,vi y1.bg,.ms 9,.ms 10,.ms 11,.ms 12,.ms 13,.ms 14]]⟩,YW ⟨.of 144,6,y1.aa.aA.map bo⟩,YW ⟨.of 3,1,y1.aa.off.map aG⟩,YW ⟨⟨94,YW 46⟩,11,y1.aj.map aZ⟩,YW ⟨.of 147,4,y1.au.map aC⟩,YW ⟨.of 46,2,y1.ae.map aU⟩,YW ⟨.of 151,6,y1.aN.map bw⟩,YW ⟨.of 3,1,y1.skip.map aG⟩,YW ⟨.of 78,2,((([]:List ct):List ct)++o.aS).map cG⟩,YW ⟨.of 81,4,((([]:List bF):List bF)++o.aT).map cy⟩,YW ⟨.of 3,1,((([]:List Int):List Int)++o.aI).map aG⟩,YW ⟨⟨44,YW 3⟩,7,o0.map bA⟩,YW ⟨.of 85,4,y2.map bK⟩,YW ⟨⟨48,YW 3⟩,13,s1.2.map cX⟩]⟩
def dt(o:aF):Option aF:=
 (oe 8 []).bind λ_=>
 (dL o.world).bind λy1=>
 (cr (bn ((([]:List ct):List ct).length+(o.aS:List ct).length) 32)).bind λ_=>
 (cr (bn ((([]:List bF):List bF).length+(o.aT:List bF).length) 32)).bind λ_=>
 (cr (bn ((([]:List Int):List Int).length+(o.aI:List Int).length) 8)).bind λ_=>
 (bM o.lines).bind λy2=>
 (aE (gR o y1 y2) NN (0,[])).bind (λo0=>
 (aE (gS o y1 y2 o0) NN (0,[])).bind (λo1=>
 YW (⟨y1,((([]:List ct):List ct)++o.aS),((([]:List bF):List bF)++o.aT),((([]:List Int):List Int)++o.aI),o0,y2,o1⟩:aF)))
instance (o:aF):CT prog (dt o):=⟨25,[.ag (lM o)],[],λr=>.ag [.ms 0,.ms 1,vi r.world.aa.change,.ms 2,.ms 3,.ms 4,vi r.world.now,.ms 5,.ms 6,vi r.world.bg,.ms 7,.ms 8,.ms 9,.ms 10,.ms 11,.ms 12],λr=>[YW ⟨.of 144,6,r.world.aa.aA.map bo⟩,YW ⟨.of 3,1,r.world.aa.off.map aG⟩,YW ⟨⟨94,YW 46⟩,11,r.world.aj.map aZ⟩,YW ⟨.of 147,4,r.world.au.map aC⟩,YW ⟨.of 46,2,r.world.ae.map aU⟩,YW ⟨.of 151,6,r.world.aN.map bw⟩,YW ⟨.of 3,1,r.world.skip.map aG⟩,YW ⟨.of 78,2,r.aS.map cG⟩,YW ⟨.of 81,4,r.aT.map cy⟩,YW ⟨.of 3,1,r.aI.map aG⟩,YW ⟨⟨44,YW 3⟩,7,r.aH.map bA⟩,YW ⟨.of 85,4,r.lines.map bK⟩,YW ⟨⟨48,YW 3⟩,13,r.aD.map cX⟩],ck (dt.eq_1 ..) func25 ntmps25 results25⟩
def ri(code:List Y6):Option Bool:=
 YW (Y0 (4096<(code.length:Int)))
instance (code:List Y6):CT prog (ri code):=⟨6,[.sl (code.map Y5)],[],λr=>vb r,λr=>[],cw (ri.eq_1 ..) func6 ntmps6 results6⟩
end Go.Proofs.YtdilaemengjipaaGreatDoor
