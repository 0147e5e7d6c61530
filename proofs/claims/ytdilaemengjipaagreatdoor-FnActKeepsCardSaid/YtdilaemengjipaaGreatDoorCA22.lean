/- A part of the proof of the statement in the last file of this claim: texts on the language of the program and on its functions. No condition. -/
import Derived.Test.YtdilaemengjipaaGreatDoorCA17
import Derived.Test.YtdilaemengjipaaGreatDoorCA9
import Derived.Test.YtdilaemengjipaaGreatDoorCA4
import Derived.Test.YtdilaemengjipaaGreatDoorCA19
import Derived.Test.YtdilaemengjipaaGreatDoorCA10
import Derived.Shelf.GgSortMore.Stable
import Derived.Test.YtdilaemengjipaaGreatDoorCA8
import Derived.Test.YtdilaemengjipaaGreatDoorCA12
import Derived.Test.YtdilaemengjipaaGreatDoorCA21
import Derived.Test.YtdilaemengjipaaGreatDoorCA7
import Derived.Test.YtdilaemengjipaaGreatDoorCA13
import Derived.Test.YtdilaemengjipaaGreatDoorCA16
import Derived.Test.YtdilaemengjipaaGreatDoorCA1
set_option linter.unusedVariables false
set_option linter.unusedSimpArgs false
set_option linter.unusedSectionVars false
open Option renaming some->YH,none->YI
open Bool renaming true->YJ,false->YK
open Decidable renaming decide->YL
open Go.Proofs.Tryz
set_option maxHeartbeats 40000000
open Option.some renaming inj->VW
open Nat renaming lt_of_lt_of_le->WT,lt_or_ge->Wv,zero_add->We
open List renaming getElem?_map->Wj,ext_getElem?->Xo,getElem?_eq_none->Xa
namespace Go.Proofs.YtdilaemengjipaaGreatDoor
set_option maxRecDepth 10000
open Go.RowKit Go.Lib Go.Sort
set_option maxRecDepth 100000
variable {O:Nat->Prop}{v:Value}{w:World}
instance :eQ aq where
 cells x:=[I x.bw,I x.bj.bD,I x.bj.day,I x.ab]
 k:=4
 len _:=rfl
 pos:=by decide
 one:=by simp[Value.oneCell',I]
instance :eQ av where
 cells x:=[I x.bD,I x.day]
 k:=2
 len _:=rfl
 pos:=by decide
 one:=by simp[Value.oneCell',I]
instance :uR aC (id:aq->aq):=⟨λx=>rfl,λx j p h=>by
 match j with
 |0=>obtain rfl:_=p:=VW h
     exact⟨_,rfl,rfl⟩
 |1=>obtain rfl:_=p:=VW h
     exact⟨_,rfl,rfl⟩
 |2=>obtain rfl:_=p:=VW h
     exact⟨_,rfl,rfl⟩
 |3=>obtain rfl:_=p:=VW h
     exact⟨_,rfl,rfl⟩
 |j+4=>simp[aC]at h⟩
instance :uR aW (id:av->av):=⟨λx=>rfl,λx j p h=>by
 match j with
 |0=>obtain rfl:_=p:=VW h
     exact⟨_,rfl,rfl⟩
 |1=>obtain rfl:_=p:=VW h
     exact⟨_,rfl,rfl⟩
 |j+2=>simp[aW]at h⟩
instance :Inhabited aq:=⟨⟨0,⟨0,0⟩,0⟩⟩
theorem AN(a b:aq):pj a b=YJ↔a.bj.day<b.bj.day\/(a.bj.day=b.bj.day/\(a.bj.bD<b.bj.bD\/(a.bj.bD=b.bj.bD/\a.bw<b.bw))):=by
 unfold pj
 grind
theorem AO(a b:aq):pj a b=YK↔¬(a.bj.day<b.bj.day\/(a.bj.day=b.bj.day/\(a.bj.bD<b.bj.bD\/(a.bj.bD=b.bj.bD/\a.bw<b.bw)))):=by
 rw[<-AN];simp
theorem A9:SWO pj:=⟨λx=>(AO _ _).2 X9,λx y z h1 h2=>(AN _ _).2 (by have:=(AN _ _).1 h1;have:=(AN _ _).1 h2;omega),λx y z h1 h2=>(AO _ _).2 (by have:=(AO _ _).1 h1;have:=(AO _ _).1 h2;omega)⟩
theorem K6{b:Nat}:¬np (λ_=>YI) b:=by rintro⟨l,B,h,_⟩;cases h
theorem fL.ZaO{P:Program}{f:FuncId}{args:List PV}{val:Value}(h:fL P f args [] (.v val) [])(ht:Dn w (np λ_=>YI)){vs:Array Value}(hl:vs.size=args.length)(ha:∀(i:Nat) (p:PV),args[i]?=YH p->∃x,vs[i]?=YH x/\dE w (E1 (λb=>b<w.heap.size) (λ_=>YI) 0) p x):
 Calls P f vs w λe w'=>e=.returned val/\Up w w':=by
 have hok:Ok w (np λ_=>YI) (E1 (λb=>b<w.heap.size) (λ_=>YI) 0) w []:=
  ⟨Dp.refl _ _,λb h=>h,λl B h=>Yj,λl l' B B' h=>Yj,λl h=>absurd h (Nat.not_lt_zero l),λl B h=>Yj,λl mb h=>Yd,λl B h=>Yj,ht,λ_ _ h=>h.elim⟩
 refine(h (λb=>b<w.heap.size) (λ_=>YI) w vs (λ_ _=>False) hok hl ha).mono ?_
 rintro e w' ⟨v,E',rfl,hk,_,_,_,hr⟩;obtain⟨rfl,_⟩:=hr.gW;exact⟨rfl,hk.up.os,hk.up.tape,hk.up.output,hk.up.size,λb hb=>hk.up.block b hb K6⟩
theorem Da{w w':World}{O O':Nat->Prop}(h:Dn w O)(hu:Dp O' w w')(hO:∀b,b<w.heap.size->O' b->O b):Dn w' (np λ_=>YI):=by
 obtain⟨T,h1,h2⟩:=h;exact⟨T,λb hb=>⟨WT (h1 b hb).1 hu.size,K6⟩,λw'' Zca=>h2 w'' λb hb=>(Zca b hb).trans (hu.block b (h1 b hb).1 λh=>(h1 b hb).2 (hO b (h1 b hb).1 h))⟩
theorem Gn{α β:Type}[eQ β]{c:α->List PV}(g:α->β)[hf:uR c g]{A:Option Addr}{n:Nat}{xs:List α}(h:Rd w w.heap.size A (xs.map g))(hn:xs.length<=n)(hm:n<=maxLen):fg w (λb=>b<w.heap.size) (.sl (xs.map c)) (.slice A xs.length n):=by
 by_cases h0:xs=[]
 ·subst h0;exact .nil _ _
 obtain⟨b,off,rfl,hb,hc⟩:=h Yg;have hlen:(xs.map c).length=xs.length:=by simp
 have key:∀(i:Nat) (cs:List PV) (j:Nat) (p:PV),(xs.map c)[i]?=YH cs->cs[j]?=YH p->∃u,w.cell? ⟨b,off+i*eQ.k β+j,YI⟩=YH u/\u.oneCell'=YJ/\p=.v u:=by
  intro i cs j p hi hj;rw[Wj]at hi
  obtain⟨x,hx,rfl⟩:=Option.map_eq_some_iff.1 hi;obtain⟨u,hu,hp⟩:=hf.aP x j p hj;have Og:=ug (xs:=xs.map g) (i:=i) (x:=g x) Yd hu;exact⟨u,by grind,eQ.one _ u (List.mem_of_getElem? hu),hp⟩
 rw[<-hlen];exact .sl _ b off (eQ.k β) n (λi j=>(w.cell? ⟨b,off+i*eQ.k β+j,YI⟩).getD .nilIface) hb eQ.pos X9 hm
  (λi cs hi=>by
   rw[Wj]at hi
   obtain⟨x,_,rfl⟩:=Option.map_eq_some_iff.1 hi;exact hf.len x)
  (λi cs j p hi hj=>by grind)
  (λi cs j p hi hj=>by grind)
  (λi cs j p hi hj=>by obtain⟨u,x1,x2,rfl⟩:=key i cs j p hi hj;rw[x1];exact .v u x2)
section
variable {β:Type} [eQ β] [Inhabited β]
theorem BX(d:Array β):(flatK eQ.cells (eQ.k β) d).toList=flat d.toList:=by
 apply Xo;intro t;have hk:0<eQ.k β:=eQ.pos
 rcases Wv t (d.size*eQ.k β)with h|h
 ·have h1:t<(flatK eQ.cells (eQ.k β) d).size:=by simp_all
  have hi:t / eQ.k β<d.size:=by rw[Nat.div_lt_iff_lt_mul hk];exact h
  have hj:=Nat.mod_lt t hk;have e0:t / eQ.k β*eQ.k β+t % eQ.k β=t:=by rw[Nat.mul_comm];exact Nat.div_add_mod t _
  have hc:(eQ.cells d[t / eQ.k β]!)[t % eQ.k β]?=YH ((eQ.cells d[t / eQ.k β]!)[t % eQ.k β]'(by rw[eQ.len];omega)):=List.getElem?_eq_getElem _
  have hf:=ug (xs:=d.toList) (i:=t / eQ.k β) (x:=d[t / eQ.k β]!) Yd hc;rw[Array.getElem?_toList,Array.getElem?_eq_getElem h1,<-getElem!_pos,get_flatK _ _ _ _ h]
  grind
 ·rw[Xa Yg,Xa (by rw[rz];exact h)]
theorem Zcx{B E:Nat}{xs:List β}(h:Own w B E v xs)(h2:0<xs.length):
 ∃g c,v=.slice (YH ⟨g,0,YI⟩) xs.length c/\B<=g/\xs.length<=c/\c<=maxLen/\SU (eQ.cells (α:=β)) (eQ.k β) g E (c*eQ.k β) w xs.toArray w:=by
 rcases h.2 with⟨_,h0⟩ |⟨g,cap,cur,hv,hB,hg,va,Ef,sL,ht⟩
 ·omega
 refine⟨g,cap,hv,hB,va,Ef,Dp.refl _ _,?_,cur,hg,sL⟩;intro t htl;have Og:(flatK (eQ.cells (α:=β)) (eQ.k β) xs.toArray).toList=flat xs:=by rw[BX]
 refine⟨?_,by simp[World.frozen?,hg]⟩
 rw[We,cell_of_row w g t cur E (0,0) hg];have h3:(flat xs)[t]?=YH (id (flatK (eQ.cells (α:=β)) (eQ.k β) xs.toArray)[t]!):=by
  grind
 grind
theorem Tk{w0 W:World}{B E g c:Nat}{d:Array β}(h:SU (eQ.cells (α:=β)) (eQ.k β) g E (c*eQ.k β) w0 d W)(hB:B<=g)(hn:d.size<=c)(hm:c<=maxLen):Own W B E (.slice (YH ⟨g,0,YI⟩) d.size c) d.toList:=by
 obtain⟨cur,hg,sL⟩:=h.row;refine⟨by rw[rz],.inr ⟨g,c,cur,by rfl,hB,hg,X9,hm,sL,?_⟩⟩
 rw[<-BX];apply Xo;intro t;rw[List.getElem?_take]
 split
 ·have h1:t<(flatK (eQ.cells (α:=β)) (eQ.k β) d).size:=by simp_all
  have hh:=(h.hold t h1).1;rw[We,cell_of_row W g t cur E (0,0) hg]at hh
  grind
 simp_all
end
theorem CO{E:Env}(x:Value)(h:x.oneCell'=YJ):dE w E (.v x) x:=.c (.v x h)
theorem Vj{g c n Bx:Nat}{w0:World}(hx:w0.cell? ⟨Bx,0,YI⟩=YH (.slice (YH ⟨g,0,YI⟩) n c))(hBx:Bx<w0.heap.size)(iq:Bx≠g)(va:n<=c)(hm:c<=maxLen)(ht:Dn w0 O)(hO:O g):
 sQ 201 #[.pointer (YH ⟨Bx,0,YI⟩)] (eQ.cells (α:=aq)) 4 pj g 147 (c*4) n w0:=by
 intro d W hS hd i j hi hj;have hn:d.toList.length=n:=X9;have gi:aB d.toList (i:Int)=YH d[i]!:=by rw[aS,getElem!_pos d i X9];simp
 have gj:aB d.toList (j:Int)=YH d[j]!:=by rw[aS,getElem!_pos d j X9];simp
 obtain⟨v,hv,hvb⟩:=DV d[i]! d[j]!;have H:oO (i:Int) (j:Int) d.toList=YH (pj d[i]! d[j]!):=by
  unfold oO
  grind
 have hC:=CT.ok (P:=prog) H;simp only[CT.args]at hC
 have Ee:W.cell? ⟨Bx,0,YI⟩=YH (.slice (YH ⟨g,0,YI⟩) n c):=(hS.Ah hBx iq).trans hx;have PW:Rd W W.heap.size (YH ⟨g,0,YI⟩) (d.toList.map id):=by
  have:=(Tk (B:=g) hS (Nat.le_refl _) X9 hm).rd
  simp_all
 have hrs:=Gn (c:=aC) (id:aq->aq) PW (n:=c) X9 hm;rw[hn]at hrs
 refine(fL.ZaO hC (w:=W) (Da ht hS.up λb _ h=>h▸hO) rfl λidx p hp=>?_).mono ?_
 ·match idx with
  |0=>obtain rfl:_=p:=VW hp
      exact⟨_,rfl,CO _ rfl⟩
  |1=>obtain rfl:_=p:=VW hp
      exact⟨_,rfl,CO _ rfl⟩
  |2=>obtain rfl:_=p:=VW hp
      refine⟨_,rfl,.c (.rp _ Bx 0 (λ_=>.slice (YH ⟨g,0,YI⟩) n c) (WT hBx hS.up.size) (λj p hp=>?_) (λj p hp=>rfl) λj p hp=>?_)⟩
      ·grind
      ·match j with
       |0=>obtain rfl:_=p:=VW hp
           exact hrs
       |j+1=>grind
  |idx+3=>grind
 simp
noncomputable def bkT:TypeInfo:=(prog.info? 29).get Yb
noncomputable def T5:TypeInfo:=(prog.info? 147).get Yb
theorem bkK(n:Nat)(h2:2<=n):Lib.swapperK n T5 25=9:=by
 have a:T5.hasPointers=false:=by rfl
 have b:T5.bytes=32:=by rfl
 have c:(n==0)=false:=by grind
 have d:(n==1)=false:=by grind
 simp[Lib.swapperK,a,b,c,d]
theorem UD(w:World)(os:Array Obj):Up w (grow w os):=⟨rfl,rfl,rfl,by simp,λb hb=>heap_grow_old w os hb⟩
theorem Zaz{B Bx:Nat}{xs:List aq}(ho:Own w B 147 v xs)(hx:w.heap[Bx]?=YH (.cells #[v] 29 (0,0)))(hn:xs.length<=1048576)(ht:Dn w O)(hO:∀b,B<=b->O b):
 Calls prog 200 #[.iface 29 v,.func (.func 201) #[] #[.pointer (YH ⟨Bx,0,YI⟩)]] w λe w'=>e=.returned (.tuple #[])/\∃ys,ys.Perm xs/\ys.Pairwise (λa b=>pj b a=YK)/\Own w' B 147 v ys/\Dp (λb=>B<=b/\b≠Bx) w w':=by
 by_cases h2:2<=xs.length
 case neg=>
  obtain⟨A,c,rfl,_,_⟩:=ho.form;have hR:=Tryz.FQ;have key : ∀ f, prog.funcs.findIdx? (·.name == "internal/reflectlite" ++ ".Swapper$" ++ toString (Lib.swapperK xs.length T5 25)) = YH f -> Calls prog 200 #[.iface 29 (.slice A xs.length c), .func (.func 201) #[] #[.pointer (YH ⟨Bx, 0, YI⟩)]] w λe w' => e = .returned (.tuple #[]) /\ ∃ os, w' = grow w os := λf hf =>
   Any.sort_SliceStable_tiny Tryz.FQ 29 147 bkT T5 Yb Yb Yb Yb 25 (λ_=>by kernel_rfl) A xs.length c X9 f hf _ _ _ w
  have Zgp : ∃ f, prog.funcs.findIdx? (·.name == "internal/reflectlite" ++ ".Swapper$" ++ toString (Lib.swapperK xs.length T5 25)) = YH f := by
   rcases Wv 0 xs.length with h|h
   ·rw[show xs.length=1 by omega]
    exact⟨312,by kernel_rfl⟩
   ·rw[show xs.length=0 by omega]
    exact⟨311,by kernel_rfl⟩
  obtain⟨f,hf⟩:=Zgp;refine(key f hf).mono ?_;rintro e w' ⟨rfl,os,rfl⟩;have hu:=UD w os;refine⟨rfl,xs,List.Perm.refl _,?_,ho.up hu,⟨hu.os,hu.tape,hu.output,hu.size,λb hb _=>hu.block b hb⟩⟩
  match xs,h2 with
  | [],_=>simp
  | [x],_=>simp
  |x::y::l,h2=>grind
 case pos=>
  obtain⟨g,c,rfl,hB,va,Ef,hS⟩:=Zcx ho X9;have Zhy:=hS.row;have iq:Bx≠g:=by
   grind
  have hBx:Bx<w.heap.size:=(Array.getElem?_eq_some_iff.1 hx).1;have Ee:w.cell? ⟨Bx,0,YI⟩=YH (.slice (YH ⟨g,0,YI⟩) xs.length c):=by rw[cell_of_row w Bx 0 _ _ (0,0) hx];rfl
  have hlen:xs.length<1152921504606846976:=X9;have nB:sliceBound prog 147 T5 25 (YH ⟨g,0,YI⟩) xs.length c=#[.slice (YH ⟨g,0,YI⟩) xs.length c,typeHandle prog 147]:=by
   unfold sliceBound;rw[if_neg (swapperK_gt _ _ _ h2)]
  have TF:SwapSwapsK prog 319 #[.slice (YH ⟨g,0,YI⟩) xs.length c,typeHandle prog 147] (eQ.cells (α:=aq)) 4 g 0 xs.length:=
   swapSwapsK_of_literal YK 319 (λargs W=>run_callFunc_extern func319 Yb Yb Yb (e:=Extern.ReflectliteSwapper.swap YK) Yb args W) 147 T5 Yb (eQ.cells (α:=aq)) 4 (λ_=>rfl) Yb (λ_=>by kernel_rfl) eQ.one g 0 xs.length c
  have tE:=Vj (n:=xs.length) Ee hBx iq va Ef ht (hO g hB);refine Any.sort_SliceStable_of_stable Tryz.FQ 29 147 bkT T5 Yb Yb Yb Yb 25 (λ_=>by kernel_rfl) (YH ⟨g,0,YI⟩) xs.length c X9 319 (by rw[bkK _ h2];kernel_rfl) (.func 201) #[] #[.pointer (YH ⟨Bx,0,YI⟩)] w (λw'=>∃ys,ys.Perm xs/\ys.Pairwise (λa b=>pj b a=YK)/\Own w' B 147 (.slice (YH ⟨g,0,YI⟩) xs.length c) ys/\Dp (λb=>B<=b/\b≠Bx) w w') ?_
  rw[nB];have hu:Up w (stableWorld prog Tryz.vk 29 (YH ⟨g,0,YI⟩) xs.length c w):=by unfold stableWorld;exact Up.al _ (Up.al _ (Up.rfl' w))
  generalize stableWorld prog Tryz.vk 29 (YH ⟨g,0,YI⟩) xs.length c w=w1 at hu⊢
  have hS1:=hS.more hu;have uL:=Th (enc:=eQ.cells (α:=aq)) (k:=4) (λ_=>rfl) 201 #[.pointer (YH ⟨Bx,0,YI⟩)] 319 #[.slice (YH ⟨g,0,YI⟩) xs.length c,typeHandle prog 147] xs.length hlen TF A9 (enters_of func201 Yb rfl) (d:=xs.toArray) Ye hS1.self (tE.on hS1)
  refine uL.mono ?_;rintro e w' ⟨rfl,e,JY,GL,Mw⟩;have hE:=hS1.trans JY;have wu:e.size=xs.length:=by rw[GL.1];simp
  have oM:=Tk (B:=B) (c:=c) hE hB X9 Ef;rw[wu]at oM
  refine⟨rfl,e.toList,?_,?_,oM,⟨hE.up.os,hE.up.tape,hE.up.output,hE.up.size,λb hb hn=>hE.up.block b hb λh=>hn ⟨h▸hB,λh'=>iq (h'▸h.symm▸rfl)⟩⟩⟩
  ·have hp:=GL.2.2
   rw[<-wu]at hp
   rw[Array.extract_size]at hp
   simp_all
  ·rw[List.pairwise_iff_getElem]
   intro i j hi hj yN;have:=Mw i j X9 yN Yg
   grind
end Go.Proofs.YtdilaemengjipaaGreatDoor
namespace Go.Proofs.YtdilaemengjipaaGreatDoor
set_option maxRecDepth 10000
open Go.RowKit
def eF(w:ax)(i:Int):Option ax:=
 (aB w.ae i).bind λy1=>
 (e9 y1).bind λy2=>
 cond (YL (0<y2))
 ((aB y1.aG (aI (y2-1))).bind λy3=>
 (bl w.aa y3).bind λy4=>
 (fB (aI (w.now+1)) (aI (y4+w.aa.change))).bind λy5=>
 (lk w.aa w.ar (aI (i+1)) (aI (w.now+1))).bind λy6=>
 (eU w.aa y1).bind λy7=>
 (bN w.aa y6 w.ah y7 y1.a8 y5 y1.ab).bind λy8=>
 (ct w.aa y6 (aI (i+1)) y1.ab y8.1).bind λy9=>
 (bW (gg 0 y2 y1.aG.length)).bind λ_=>
 (bW (bm ((([]:List av):List av).length+((cH y1.aG 0 y2):List av).length) 16)).bind λ_=>
 (aB w.ae i).bind λdL=>
 cond y9.2
 ((aB w.ae i).bind λji=>
 (bW (bm ((((([]:List av):List av)++(cH y1.aG 0 y2)):List av).length+(y8.1:List av).length) 16)).bind λ_=>
 (aB w.ae i).bind λoX=>
 YH (⟨w.aa,(w.ae.set (Int.toNat i) (⟨dL.au,dL.a8,dL.ay,dL.ab,dL.aP,dL.dW,((((([]:List av):List av)++(cH y1.aG 0 y2)):List av)++y8.1),dL.aN,dL.state,dL.place,dL.bB⟩:az)),y9.1,w.ah,w.now,w.aH,w.skip,w.bd⟩:ax))
 (YH (⟨w.aa,(w.ae.set (Int.toNat i) (⟨dL.au,dL.a8,dL.ay,dL.ab,dL.aP,dL.dW,((([]:List av):List av)++(cH y1.aG 0 y2)),dL.aN,dL.state,dL.place,dL.bB⟩:az)),y6,w.ah,w.now,w.aH,w.skip,w.bd⟩:ax)))
 ((lk w.aa w.ar (aI (i+1)) (aI (w.now+1))).bind λmf=>
 (eU w.aa y1).bind λkX=>
 (bN w.aa mf w.ah kX y1.a8 (aI (w.now+1)) y1.ab).bind λpg=>
 (ct w.aa mf (aI (i+1)) y1.ab pg.1).bind λmu=>
 (bW (gg 0 y2 y1.aG.length)).bind λ_=>
 (bW (bm ((([]:List av):List av).length+((cH y1.aG 0 y2):List av).length) 16)).bind λ_=>
 (aB w.ae i).bind λrn=>
 cond mu.2
 ((aB w.ae i).bind λsi=>
 (bW (bm ((((([]:List av):List av)++(cH y1.aG 0 y2)):List av).length+(pg.1:List av).length) 16)).bind λ_=>
 (aB w.ae i).bind λvH=>
 YH (⟨w.aa,(w.ae.set (Int.toNat i) (⟨rn.au,rn.a8,rn.ay,rn.ab,rn.aP,rn.dW,((((([]:List av):List av)++(cH y1.aG 0 y2)):List av)++pg.1),rn.aN,rn.state,rn.place,rn.bB⟩:az)),mu.1,w.ah,w.now,w.aH,w.skip,w.bd⟩:ax))
 (YH (⟨w.aa,(w.ae.set (Int.toNat i) (⟨rn.au,rn.a8,rn.ay,rn.ab,rn.aP,rn.dW,((([]:List av):List av)++(cH y1.aG 0 y2)),rn.aN,rn.state,rn.place,rn.bB⟩:az)),mf,w.ah,w.now,w.aH,w.skip,w.bd⟩:ax)))
instance (w:ax)(i:Int):CT prog (eF w i):=⟨232,[.be 0 0 0,vi i],[YH ⟨.of 33,10,[[.ms 1,.ms 2,vi w.aa.change,.ms 3,.ms 4,.ms 5,vi w.now,.ms 6,.ms 7,vi w.bd]]⟩,YH ⟨.of 144,6,w.aa.aA.map bn⟩,YH ⟨.of 3,1,w.aa.off.map aE⟩,YH ⟨.of 94,11,w.ae.map ba⟩,YH ⟨.of 147,4,w.ar.map aC⟩,YH ⟨.of 46,2,w.ah.map aW⟩,YH ⟨.of 151,6,w.aH.map bt⟩,YH ⟨.of 3,1,w.skip.map aE⟩],λr=>.tu [],λr=>[YH ⟨.of 33,10,[[.ms 1,.ms 2,vi r.aa.change,.ms 3,.ms 8,.ms 5,vi r.now,.ms 6,.ms 7,vi r.bd]]⟩,YH ⟨.of 144,6,r.aa.aA.map bn⟩,YH ⟨.of 3,1,r.aa.off.map aE⟩,YH ⟨.of 94,11,r.ae.map ba⟩,YI,YH ⟨.of 46,2,r.ah.map aW⟩,YH ⟨.of 151,6,r.aH.map bt⟩,YH ⟨.of 3,1,r.skip.map aE⟩,YH ⟨.of 147,4,r.ar.map aC⟩],cw (eF.eq_1 ..) func232 ntmps232 results232⟩
def fw(t:av)(s0:Int×Int×Int×Int×(List bK)×(List Int)×(List az)×(List aq)×(List av)×(List bq)×(List Int)):Option ((Int×Int×Int×Int×(List bK)×(List Int)×(List az)×(List aq)×(List av)×(List bq)×(List Int))⊕(Int×Int×Int×(List bK)×(List Int)×(List az)×(List aq)×(List av)×(List bq)×(List Int))):=
 cond (YL (s0.1<(s0.2.2.2.2.2.2.1.length:Int)))
 ((aB s0.2.2.2.2.2.2.1 s0.1).bind λy6=>
 (e9 y6).bind λy7=>
 (bW (gg y7 (y6.aG.length:Int) y6.aG.length)).bind λ_=>
 (dp (cH y6.aG y7 (y6.aG.length:Int)) t).bind λy8=>
 cond y8
 ((bh [2,3,4,5,6,7,8,9]).bind λ_=>
 (eF (⟨(⟨s0.2.2.2.2.1,s0.2.2.2.2.2.1,s0.2.1⟩:aj),s0.2.2.2.2.2.2.1,s0.2.2.2.2.2.2.2.1,s0.2.2.2.2.2.2.2.2.1,s0.2.2.1,s0.2.2.2.2.2.2.2.2.2.1,s0.2.2.2.2.2.2.2.2.2.2,s0.2.2.2.1⟩:ax) s0.1).bind λy9=>
 YH (.inl ((aI (s0.1+1)),y9.aa.change,y9.now,y9.bd,y9.aa.aA,y9.aa.off,y9.ae,y9.ar,y9.ah,y9.aH,y9.skip)))
 (YH (.inl ((aI (s0.1+1)),s0.2.1,s0.2.2.1,s0.2.2.2.1,s0.2.2.2.2.1,s0.2.2.2.2.2.1,s0.2.2.2.2.2.2.1,s0.2.2.2.2.2.2.2.1,s0.2.2.2.2.2.2.2.2.1,s0.2.2.2.2.2.2.2.2.2.1,s0.2.2.2.2.2.2.2.2.2.2))))
 (YH (.inr (s0.2.1,s0.2.2.1,s0.2.2.2.1,s0.2.2.2.2.1,s0.2.2.2.2.2.1,s0.2.2.2.2.2.2.1,s0.2.2.2.2.2.2.2.1,s0.2.2.2.2.2.2.2.2.1,s0.2.2.2.2.2.2.2.2.2.1,s0.2.2.2.2.2.2.2.2.2.2)))
instance (t:av):bo (fw t):=⟨λs0=>(U 3 (.be 0 0 0::.be 1 0 0::.un::.be 2 0 0::vi s0.1::(U 63 []))),λs0=>[YH ⟨.of 46,2,[[vi t.bD,vi t.day]]⟩,YH ⟨.of 33,10,[[.v (.slice YI 0 0),.v (.slice YI 0 0),vi 0,.v (.slice YI 0 0),.v (.slice YI 0 0),.v (.slice YI 0 0),vi 0,.v (.slice YI 0 0),.v (.slice YI 0 0),vi 0]]⟩,YH ⟨.of 33,10,[[.ms 3,.ms 4,vi s0.2.1,.ms 5,.ms 6,.ms 7,vi s0.2.2.1,.ms 8,.ms 9,vi s0.2.2.2.1]]⟩,YH ⟨.of 144,6,s0.2.2.2.2.1.map bn⟩,YH ⟨.of 3,1,s0.2.2.2.2.2.1.map aE⟩,YH ⟨.of 94,11,s0.2.2.2.2.2.2.1.map ba⟩,YH ⟨.of 147,4,s0.2.2.2.2.2.2.2.1.map aC⟩,YH ⟨.of 46,2,s0.2.2.2.2.2.2.2.2.1.map aW⟩,YH ⟨.of 151,6,s0.2.2.2.2.2.2.2.2.2.1.map bt⟩,YH ⟨.of 3,1,s0.2.2.2.2.2.2.2.2.2.2.map aE⟩]⟩
def cJ(w:ax)(t:av):Option (ax×Bool):=
 (ee w).bind λy1=>
 (fA w).bind λy2=>
 cond (!y2)
 (YH (y1,YK))
 ((dC w.aa t).bind λy3=>
 cond (!y3)
 (YH (y1,YK))
 ((bp w.aa t).bind λy4=>
 cond (YL (y4<=w.now))
 (YH (y1,YK))
 ((dp w.ah t).bind λy5=>
 cond y5
 (YH (y1,YK))
 (cond (YL (20<=(w.ah.length:Int)))
 (YH (y1,YK))
 ((bW (bm ((y1.ah:List av).length+([t]:List av).length) 16)).bind λ_=>
 (aD (fw t) NN (0,y1.aa.change,y1.now,y1.bd,y1.aa.aA,y1.aa.off,y1.ae,y1.ar,((y1.ah:List av)++[t]),y1.aH,y1.skip)).bind (λo0=>
 YH ((⟨(⟨o0.2.2.2.1,o0.2.2.2.2.1,o0.1⟩:aj),o0.2.2.2.2.2.1,o0.2.2.2.2.2.2.1,o0.2.2.2.2.2.2.2.1,o0.2.1,o0.2.2.2.2.2.2.2.2.1,o0.2.2.2.2.2.2.2.2.2,o0.2.2.1⟩:ax),YJ)))))))
instance (w:ax)(t:av):CT prog (cJ w t):=⟨180,[.ag (fY w),.ag (aW t)],[],λr=>.tu [.ag [.ms 0,.ms 1,vi r.1.aa.change,.ms 2,.ms 3,.ms 4,vi r.1.now,.ms 5,.ms 6,vi r.1.bd],vb r.2],λr=>[YH ⟨.of 144,6,r.1.aa.aA.map bn⟩,YH ⟨.of 3,1,r.1.aa.off.map aE⟩,YH ⟨.of 94,11,r.1.ae.map ba⟩,YH ⟨.of 147,4,r.1.ar.map aC⟩,YH ⟨.of 46,2,r.1.ah.map aW⟩,YH ⟨.of 151,6,r.1.aH.map bt⟩,YH ⟨.of 3,1,r.1.skip.map aE⟩],cw (cJ.eq_1 ..) func180 ntmps180 results180⟩
def lW(w:ax)(s0:Int×(List Int)):Option ((Int×(List Int))⊕(List Int)):=
 cond (YL (s0.1<(w.ae.length:Int)))
 ((kG w s0.1).bind λy2=>
 cond y2
 ((bW (bm ((s0.2:List Int).length+([(aI (s0.1+1))]:List Int).length) 8)).bind λ_=>
 YH (.inl ((aI (s0.1+1)),((s0.2:List Int)++[(aI (s0.1+1))]))))
 (YH (.inl ((aI (s0.1+1)),s0.2))))
 (YH (.inr s0.2))
instance (w:ax):bo (lW w):=⟨λs0=>(.un::.be 0 0 0::.un::.ms 1::vi s0.1::(U 21 [])),λs0=>[YH ⟨.of 33,10,[[.sl (w.aa.aA.map bn),.sl (w.aa.off.map aE),vi w.aa.change,.sl (w.ae.map ba),.sl (w.ar.map aC),.sl (w.ah.map aW),vi w.now,.sl (w.aH.map bt),.sl (w.skip.map aE),vi w.bd]]⟩,YH ⟨.of 3,1,s0.2.map aE⟩]⟩
def gT(w:ax):Option (List Int):=
 (fA w).bind λy1=>
 cond (!y1)
 (YH ([]:List Int))
 ((aD (lW w) NN (0,([]:List Int))).bind (λo0=>
 YH o0))
instance (w:ax):CT prog (gT w):=⟨233,[.ag (fY w)],[],λr=>.ms 0,λr=>[YH ⟨.of 3,1,r.map aE⟩],cw (gT.eq_1 ..) func233 ntmps233 results233⟩
def dZ(y2:(List Int))(s0:Int×Int×Int×Int×(List bK)×(List Int)×(List az)×(List aq)×(List av)×(List bq)×(List Int)):Option ((Int×Int×Int×Int×(List bK)×(List Int)×(List az)×(List aq)×(List av)×(List bq)×(List Int))⊕(Int×Int×Int×(List bK)×(List Int)×(List az)×(List aq)×(List av)×(List bq)×(List Int))):=
 cond (YL (s0.1<(y2.length:Int)))
 ((aB y2 s0.1).bind λy3=>
 (bh [1,2,3,4,5,6,7,8]).bind λ_=>
 (eF (⟨(⟨s0.2.2.2.2.1,s0.2.2.2.2.2.1,s0.2.1⟩:aj),s0.2.2.2.2.2.2.1,s0.2.2.2.2.2.2.2.1,s0.2.2.2.2.2.2.2.2.1,s0.2.2.1,s0.2.2.2.2.2.2.2.2.2.1,s0.2.2.2.2.2.2.2.2.2.2,s0.2.2.2.1⟩:ax) (aI (y3-1))).bind λy4=>
 YH (.inl ((aI (s0.1+1)),y4.aa.change,y4.now,y4.bd,y4.aa.aA,y4.aa.off,y4.ae,y4.ar,y4.ah,y4.aH,y4.skip)))
 (YH (.inr (s0.2.1,s0.2.2.1,s0.2.2.2.1,s0.2.2.2.2.1,s0.2.2.2.2.2.1,s0.2.2.2.2.2.2.1,s0.2.2.2.2.2.2.2.1,s0.2.2.2.2.2.2.2.2.1,s0.2.2.2.2.2.2.2.2.2.1,s0.2.2.2.2.2.2.2.2.2.2)))
instance (y2:(List Int)):bo (dZ y2):=⟨λs0=>(.un::.un::.be 0 0 0::.un::.be 1 0 0::.ms 9::vi s0.1::(U 23 [])),λs0=>[YH ⟨.of 33,10,[[.v (.slice YI 0 0),.v (.slice YI 0 0),vi 0,.v (.slice YI 0 0),.v (.slice YI 0 0),.v (.slice YI 0 0),vi 0,.v (.slice YI 0 0),.v (.slice YI 0 0),vi 0]]⟩,YH ⟨.of 33,10,[[.ms 2,.ms 3,vi s0.2.1,.ms 4,.ms 5,.ms 6,vi s0.2.2.1,.ms 7,.ms 8,vi s0.2.2.2.1]]⟩,YH ⟨.of 144,6,s0.2.2.2.2.1.map bn⟩,YH ⟨.of 3,1,s0.2.2.2.2.2.1.map aE⟩,YH ⟨.of 94,11,s0.2.2.2.2.2.2.1.map ba⟩,YH ⟨.of 147,4,s0.2.2.2.2.2.2.2.1.map aC⟩,YH ⟨.of 46,2,s0.2.2.2.2.2.2.2.2.1.map aW⟩,YH ⟨.of 151,6,s0.2.2.2.2.2.2.2.2.2.1.map bt⟩,YH ⟨.of 3,1,s0.2.2.2.2.2.2.2.2.2.2.map aE⟩,YH ⟨.of 3,1,y2.map aE⟩]⟩
def cD(w:ax):Option (ax×Int):=
 (ee w).bind λy1=>
 (gT w).bind λy2=>
 (aD (dZ y2) NN (0,y1.aa.change,y1.now,y1.bd,y1.aa.aA,y1.aa.off,y1.ae,y1.ar,y1.ah,y1.aH,y1.skip)).bind (λo0=>
 (gT (⟨(⟨o0.2.2.2.1,o0.2.2.2.2.1,o0.1⟩:aj),o0.2.2.2.2.2.1,o0.2.2.2.2.2.2.1,o0.2.2.2.2.2.2.2.1,o0.2.1,o0.2.2.2.2.2.2.2.2.1,o0.2.2.2.2.2.2.2.2.2,o0.2.2.1⟩:ax)).bind λy5=>
 YH ((⟨(⟨o0.2.2.2.1,o0.2.2.2.2.1,o0.1⟩:aj),o0.2.2.2.2.2.1,o0.2.2.2.2.2.2.1,o0.2.2.2.2.2.2.2.1,o0.2.1,o0.2.2.2.2.2.2.2.2.1,o0.2.2.2.2.2.2.2.2.2,o0.2.2.1⟩:ax),(aI ((y2.length:Int)-(y5.length:Int)))))
instance (w:ax):CT prog (cD w):=⟨181,[.ag (fY w)],[],λr=>.tu [.ag [.ms 0,.ms 1,vi r.1.aa.change,.ms 2,.ms 3,.ms 4,vi r.1.now,.ms 5,.ms 6,vi r.1.bd],vi r.2],λr=>[YH ⟨.of 144,6,r.1.aa.aA.map bn⟩,YH ⟨.of 3,1,r.1.aa.off.map aE⟩,YH ⟨.of 94,11,r.1.ae.map ba⟩,YH ⟨.of 147,4,r.1.ar.map aC⟩,YH ⟨.of 46,2,r.1.ah.map aW⟩,YH ⟨.of 151,6,r.1.aH.map bt⟩,YH ⟨.of 3,1,r.1.skip.map aE⟩],cw (cD.eq_1 ..) func181 ntmps181 results181⟩
end Go.Proofs.YtdilaemengjipaaGreatDoor
