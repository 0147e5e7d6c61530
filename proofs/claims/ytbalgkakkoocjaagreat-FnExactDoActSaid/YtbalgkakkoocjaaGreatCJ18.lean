/- A part of the proof of the statement in the last file of this claim: texts on the language of the program and on its functions. No condition. -/
import Derived.Test.YtbalgkakkoocjaaGreatCJ10
import Derived.Test.YtbalgkakkoocjaaGreatCJ5
import Derived.Test.YtbalgkakkoocjaaGreatCJ4
import Derived.Test.YtbalgkakkoocjaaGreatCJ15
import Derived.Test.YtbalgkakkoocjaaGreatCJ8
import Derived.Shelf.GgSortMore.Stable
import Derived.Test.YtbalgkakkoocjaaGreatCJ1
set_option linter.unusedVariables false
set_option linter.unusedSimpArgs false
set_option linter.unusedSectionVars false
open Option renaming some->ZA,none->ZB
open Bool renaming true->ZC,false->ZD
open Decidable renaming decide->ZE
open Go.Proofs.Tryz
set_option maxHeartbeats 40000000
namespace Go.Proofs.YtbalgkakkoocjaaGreat
open Option.some renaming inj->VG
open Nat renaming lt_of_lt_of_le->V4,lt_or_ge->Wg,zero_add->VY
open List renaming getElem?_map->VZ,ext_getElem?->Ya,getElem?_eq_none->Wz
open _root_.Array renaming getElem?_toList->Wx,length_toList->Wn
set_option maxRecDepth 10000
open Go.RowKit Go.Lib Go.Sort
set_option maxRecDepth 100000
variable {O:Nat->Prop}{v:Value}{w:World}
instance :eo aj where
 cells x:=[I x.bo,I x.aV.bG,I x.aV.day,I x.ab]
 k:=4
 len _:=rfl
 pos:=by decide
 one:=by simp[Value.oneCell',I]
instance :eo aw where
 cells x:=[I x.bG,I x.day]
 k:=2
 len _:=rfl
 pos:=by decide
 one:=by simp[Value.oneCell',I]
instance :D6 aC (id:aj->aj):=⟨λx=>rfl,λx j p h=>by
 match j with
 |0=>obtain rfl:_=p:=VG h
     exact⟨_,rfl,rfl⟩
 |1=>obtain rfl:_=p:=VG h
     exact⟨_,rfl,rfl⟩
 |2=>obtain rfl:_=p:=VG h
     exact⟨_,rfl,rfl⟩
 |3=>obtain rfl:_=p:=VG h
     exact⟨_,rfl,rfl⟩
 |j+4=>simp[aC]at h⟩
instance :D6 aS (id:aw->aw):=⟨λx=>rfl,λx j p h=>by
 match j with
 |0=>obtain rfl:_=p:=VG h
     exact⟨_,rfl,rfl⟩
 |1=>obtain rfl:_=p:=VG h
     exact⟨_,rfl,rfl⟩
 |j+2=>simp[aS]at h⟩
instance :Inhabited aj:=⟨⟨0,⟨0,0⟩,0⟩⟩
theorem GK(a b:aj):qt a b=ZC↔a.aV.day<b.aV.day\/(a.aV.day=b.aV.day/\(a.aV.bG<b.aV.bG\/(a.aV.bG=b.aV.bG/\a.bo<b.bo))):=by
 unfold qt
 grind
theorem GL(a b:aj):qt a b=ZD↔¬(a.aV.day<b.aV.day\/(a.aV.day=b.aV.day/\(a.aV.bG<b.aV.bG\/(a.aV.bG=b.aV.bG/\a.bo<b.bo)))):=by
 rw[<-GK];simp
theorem Hd:SWO qt:=⟨λx=>(GL _ _).2 YG,λx y z h1 h2=>(GK _ _).2 (by have:=(GK _ _).1 h1;have:=(GK _ _).1 h2;omega),λx y z h1 h2=>(GL _ _).2 (by have:=(GL _ _).1 h1;have:=(GL _ _).1 h2;omega)⟩
theorem Ny{b:Nat}:¬mz (λ_=>ZB) b:=by rintro⟨l,B,h,_⟩;cases h
theorem cq.Zn0{P:Program}{f:FuncId}{args:List PV}{val:Value}(h:cq P f args [] (.v val) [])(ht:Oo w (mz λ_=>ZB)){vs:Array Value}(hl:vs.size=args.length)(ha:∀(i:Nat) (p:PV),args[i]?=ZA p->∃x,vs[i]?=ZA x/\cN w (E1 (λb=>b<w.heap.size) (λ_=>ZB) 0) p x):
 Calls P f vs w λe w'=>e=.returned val/\Up w w':=by
 have ji:Ok w (mz λ_=>ZB) (E1 (λb=>b<w.heap.size) (λ_=>ZB) 0) w []:=
  ⟨mA.refl _ _,λb h=>h,λl B h=>YT,λl l' B B' h=>YT,λl h=>absurd h (Nat.not_lt_zero l),λl B h=>YT,λl mb h=>YN,λl B h=>YT,ht,λ_ _ h=>h.elim⟩
 refine(h (λb=>b<w.heap.size) (λ_=>ZB) w vs (λ_ _=>False) ji hl ha).mono ?_
 rintro e w' ⟨v,E',rfl,hk,_,_,_,hr⟩;obtain⟨rfl,_⟩:=hr.cF;exact⟨rfl,hk.up.os,hk.up.tape,hk.up.output,hk.up.size,λb hb=>hk.up.block b hb Ny⟩
theorem UF{w w':World}{O O':Nat->Prop}(h:Oo w O)(hu:mA O' w w')(hO:∀b,b<w.heap.size->O' b->O b):Oo w' (mz λ_=>ZB):=by
 obtain⟨T,h1,h2⟩:=h;exact⟨T,λb hb=>⟨V4 (h1 b hb).1 hu.size,Ny⟩,λw'' ZkV=>h2 w'' λb hb=>(ZkV b hb).trans (hu.block b (h1 b hb).1 λh=>(h1 b hb).2 (hO b (h1 b hb).1 h))⟩
theorem Zam{α β:Type}[eo β]{c:α->List PV}(g:α->β)[hf:D6 c g]{A:Option Addr}{n:Nat}{xs:List α}(h:Rd w w.heap.size A (xs.map g))(hn:xs.length<=n)(hm:n<=maxLen):cf w (λb=>b<w.heap.size) (.sl (xs.map c)) (.slice A xs.length n):=by
 by_cases h0:xs=[]
 ·subst h0;exact .nil _ _
 obtain⟨b,off,rfl,hb,hc⟩:=h Y9;have hlen:(xs.map c).length=xs.length:=by simp
 have key:∀(i:Nat) (cs:List PV) (j:Nat) (p:PV),(xs.map c)[i]?=ZA cs->cs[j]?=ZA p->∃u,w.cell? ⟨b,off+i*eo.k β+j,ZB⟩=ZA u/\u.oneCell'=ZC/\p=.v u:=by
  intro i cs j p hi hj;rw[VZ]at hi
  obtain⟨x,hx,rfl⟩:=Option.map_eq_some_iff.1 hi;obtain⟨u,hu,hp⟩:=hf.aO x j p hj;have SP:=ym (xs:=xs.map g) (i:=i) (x:=g x) Y9 hu;exact⟨u,by grind,eo.one _ u (List.mem_of_getElem? hu),hp⟩
 rw[<-hlen];exact .sl _ b off (eo.k β) n (λi j=>(w.cell? ⟨b,off+i*eo.k β+j,ZB⟩).getD .nilIface) hb eo.pos YG hm
  (λi cs hi=>by
   rw[VZ]at hi
   obtain⟨x,_,rfl⟩:=Option.map_eq_some_iff.1 hi;exact hf.len x)
  (λi cs j p hi hj=>by grind)
  (λi cs j p hi hj=>by grind)
  (λi cs j p hi hj=>by obtain⟨u,x1,x2,rfl⟩:=key i cs j p hi hj;rw[x1];exact .v u x2)
section
variable {β:Type} [eo β] [Inhabited β]
theorem IB(d:Array β):(flatK eo.cells (eo.k β) d).toList=flat d.toList:=by
 apply Ya;intro t;have hk:0<eo.k β:=eo.pos
 rcases Wg t (d.size*eo.k β)with h|h
 ·have h1:t<(flatK eo.cells (eo.k β) d).size:=by simp_all
  have hi:t / eo.k β<d.size:=by rw[Nat.div_lt_iff_lt_mul hk];exact h
  have hj:=Nat.mod_lt t hk;have e0:t / eo.k β*eo.k β+t % eo.k β=t:=by rw[Nat.mul_comm];exact Nat.div_add_mod t _
  have hc:(eo.cells d[t / eo.k β]!)[t % eo.k β]?=ZA ((eo.cells d[t / eo.k β]!)[t % eo.k β]'(by rw[eo.len];omega)):=List.getElem?_eq_getElem _
  have hf:=ym (xs:=d.toList) (i:=t / eo.k β) (x:=d[t / eo.k β]!) Y9 hc;rw[e0]at hf
  rw[hf,Wx,Array.getElem?_eq_getElem h1,<-getElem!_pos,get_flatK _ _ _ _ h]
  grind
 ·rw[Wz Y9,Wz (by rw[ux,Wn];exact h)]
theorem Zli{B E:Nat}{xs:List β}(h:Own w B E v xs)(h2:0<xs.length):
 ∃g c,v=.slice (ZA ⟨g,0,ZB⟩) xs.length c/\B<=g/\xs.length<=c/\c<=maxLen/\SU (eo.cells (α:=β)) (eo.k β) g E (c*eo.k β) w xs.toArray w:=by
 rcases h.2 with⟨_,h0⟩ |⟨g,cap,cur,hv,hB,hg,xt,Kd,gl,ht⟩
 ·omega
 refine⟨g,cap,hv,hB,xt,Kd,mA.refl _ _,?_,cur,hg,gl⟩;intro t htl;rw[size_flatK]at htl
 have SP:(flatK (eo.cells (α:=β)) (eo.k β) xs.toArray).toList=flat xs:=by rw[IB]
 refine⟨?_,by simp[World.frozen?,hg]⟩
 rw[VY,cell_of_row w g t cur E (0,0) hg];have h1:t<(flatK (eo.cells (α:=β)) (eo.k β) xs.toArray).size:=by simp_all
 have h3:(flat xs)[t]?=ZA (id (flatK (eo.cells (α:=β)) (eo.k β) xs.toArray)[t]!):=by
  grind
 grind
theorem Zgu{w0 W:World}{B E g c:Nat}{d:Array β}(h:SU (eo.cells (α:=β)) (eo.k β) g E (c*eo.k β) w0 d W)(hB:B<=g)(hn:d.size<=c)(hm:c<=maxLen):Own W B E (.slice (ZA ⟨g,0,ZB⟩) d.size c) d.toList:=by
 obtain⟨cur,hg,gl⟩:=h.row;refine⟨by rw[ux],.inr ⟨g,c,cur,by rfl,hB,hg,YG,hm,gl,?_⟩⟩
 rw[<-IB];have hle:d.size*eo.k β<=c*eo.k β:=Nat.mul_le_mul_right _ hn;apply Ya;intro t;rw[List.getElem?_take,Wn]
 split
 ·rename_i ht
  have h1:t<(flatK (eo.cells (α:=β)) (eo.k β) d).size:=by simp_all
  have hh:=(h.hold t h1).1;rw[VY,cell_of_row W g t cur E (0,0) hg,getElem!_pos (flatK (eo.cells (α:=β)) (eo.k β) d) t h1]at hh
  simp_all
 simp_all
end
theorem Ra{E:Env}(x:Value)(h:x.oneCell'=ZC):cN w E (.v x) x:=.c (.v x h)
theorem Zh3{g c n Bx:Nat}{w0:World}(hx:w0.cell? ⟨Bx,0,ZB⟩=ZA (.slice (ZA ⟨g,0,ZB⟩) n c))(hBx:Bx<w0.heap.size)(dX:Bx≠g)(xt:n<=c)(hm:c<=maxLen)(ht:Oo w0 O)(hO:O g):
 wL 276 #[.pointer (ZA ⟨Bx,0,ZB⟩)] (eo.cells (α:=aj)) 4 qt g 177 (c*4) n w0:=by
 intro d W hS hd i j hi hj;have hn:d.toList.length=n:=YG;have gi:aA d.toList (i:Int)=ZA d[i]!:=by rw[aQ,Wx,getElem!_pos d i YG];simp
 have gj:aA d.toList (j:Int)=ZA d[j]!:=by rw[aQ,Wx,getElem!_pos d j YG];simp
 obtain⟨v,hv,hvb⟩:=KN d[i]! d[j]!;have H:qx (i:Int) (j:Int) d.toList=ZA (qt d[i]! d[j]!):=by
  unfold qx
  grind
 have hC:=CT.ok (P:=prog) H;simp only[CT.f,CT.args,CT.m0,CT.res,CT.mem]at hC
 have vO:W.cell? ⟨Bx,0,ZB⟩=ZA (.slice (ZA ⟨g,0,ZB⟩) n c):=(hS.tq hBx dX).trans hx;have hrd:Rd W W.heap.size (ZA ⟨g,0,ZB⟩) (d.toList.map id):=by
  have:=(Zgu (B:=g) hS (Nat.le_refl _) YG hm).rd
  simp_all
 have hrs:=Zam (c:=aC) (id:aj->aj) hrd (n:=c) YG hm;rw[hn]at hrs
 refine(cq.Zn0 hC (w:=W) (UF ht hS.up λb _ h=>h▸hO) rfl λidx p hp=>?_).mono ?_
 ·match idx with
  |0=>obtain rfl:_=p:=VG hp
      exact⟨_,rfl,Ra _ rfl⟩
  |1=>obtain rfl:_=p:=VG hp
      exact⟨_,rfl,Ra _ rfl⟩
  |2=>obtain rfl:_=p:=VG hp
      refine⟨_,rfl,.c (.rp _ Bx 0 (λ_=>.slice (ZA ⟨g,0,ZB⟩) n c) (V4 hBx hS.up.size) (λj p hp=>?_) (λj p hp=>rfl) λj p hp=>?_)⟩
      ·grind
      ·match j with
       |0=>obtain rfl:_=p:=VG hp
           exact hrs
       |j+1=>grind
  |idx+3=>grind
 simp
noncomputable def bkT:TypeInfo:=(prog.info? 29).get YK
noncomputable def bkE:TypeInfo:=(prog.info? 177).get YK
theorem bkK(n:Nat)(h2:2<=n):Lib.swapperK n bkE 25=9:=by
 have a:bkE.hasPointers=false:=by kernel_rfl
 have b:bkE.bytes=32:=by kernel_rfl
 have c:(n==0)=false:=by simp;omega
 have d:(n==1)=false:=by simp;omega
 simp[Lib.swapperK,a,b,c,d]
theorem Zhy(w:World)(os:Array Obj):Up w (grow w os):=⟨rfl,rfl,rfl,by rw[size_grow];omega,λb hb=>heap_grow_old w os hb⟩
theorem Zi2{B Bx:Nat}{xs:List aj}(ho:Own w B 177 v xs)(hx:w.heap[Bx]?=ZA (.cells #[v] 29 (0,0)))(hn:xs.length<=1048576)(ht:Oo w O)(hO:∀b,B<=b->O b):
 Calls prog 275 #[.iface 29 v,.func (.func 276) #[] #[.pointer (ZA ⟨Bx,0,ZB⟩)]] w λe w'=>e=.returned (.tuple #[])/\∃ys,ys.Perm xs/\ys.Pairwise (λa b=>qt b a=ZD)/\Own w' B 177 v ys/\mA (λb=>B<=b/\b≠Bx) w w':=by
 by_cases h2:2<=xs.length
 case neg=>
  obtain⟨A,c,rfl,_,_⟩:=ho.form;have hR:=Tryz.M1;have key : ∀ f, prog.funcs.findIdx? (·.name == "internal/reflectlite" ++ ".Swapper$" ++ toString (Lib.swapperK xs.length bkE 25)) = ZA f -> Calls prog 275 #[.iface 29 (.slice A xs.length c), .func (.func 276) #[] #[.pointer (ZA ⟨Bx, 0, ZB⟩)]] w λe w' => e = .returned (.tuple #[]) /\ ∃ os, w' = grow w os := λf hf =>
   Any.sort_SliceStable_tiny Tryz.M1 29 177 bkT bkE YK YK YK YK 25 (λ_=>by kernel_rfl) A xs.length c YG f hf _ _ _ w
  have ZpO : ∃ f, prog.funcs.findIdx? (·.name == "internal/reflectlite" ++ ".Swapper$" ++ toString (Lib.swapperK xs.length bkE 25)) = ZA f := by
   rcases Wg 0 xs.length with h|h
   ·rw[show xs.length=1 by omega]
    exact⟨331,by kernel_rfl⟩
   ·rw[show xs.length=0 by omega]
    exact⟨330,by kernel_rfl⟩
  obtain⟨f,hf⟩:=ZpO;refine(key f hf).mono ?_;rintro e w' ⟨rfl,os,rfl⟩;have hu:=Zhy w os;refine⟨rfl,xs,List.Perm.refl _,?_,ho.up hu,⟨hu.os,hu.tape,hu.output,hu.size,λb hb _=>hu.block b hb⟩⟩
  match xs,h2 with
  | [],_=>exact .nil
  | [x],_=>simp
  |x::y::l,h2=>simp at h2
 case pos=>
  obtain⟨g,c,rfl,hB,xt,Kd,hS⟩:=Zli ho YG;have Zpw:=hS.row;have dX:Bx≠g:=by
   rintro rfl;obtain⟨cells,h1,_⟩:=Zpw;rw[hx]at h1
   simp at h1
  have hBx:Bx<w.heap.size:=(Array.getElem?_eq_some_iff.1 hx).1;have vO:w.cell? ⟨Bx,0,ZB⟩=ZA (.slice (ZA ⟨g,0,ZB⟩) xs.length c):=by rw[cell_of_row w Bx 0 _ _ (0,0) hx];rfl
  have hlen:xs.length<1152921504606846976:=YG;have lB:sliceBound prog 177 bkE 25 (ZA ⟨g,0,ZB⟩) xs.length c=#[.slice (ZA ⟨g,0,ZB⟩) xs.length c,typeHandle prog 177]:=by
   unfold sliceBound;rw[if_neg (swapperK_gt _ _ _ h2)]
  have hsw:SwapSwapsK prog 338 #[.slice (ZA ⟨g,0,ZB⟩) xs.length c,typeHandle prog 177] (eo.cells (α:=aj)) 4 g 0 xs.length:=
   swapSwapsK_of_literal ZD 338 (λargs W=>run_callFunc_extern func338 YK YK YK (e:=Extern.ReflectliteSwapper.swap ZD) YK args W) 177 bkE YK (eo.cells (α:=aj)) 4 (λ_=>rfl) YK (λ_=>by kernel_rfl) eo.one g 0 xs.length c
  have xI:=Zh3 (n:=xs.length) vO hBx dX xt Kd ht (hO g hB);refine Any.sort_SliceStable_of_stable Tryz.M1 29 177 bkT bkE YK YK YK YK 25 (λ_=>by kernel_rfl) (ZA ⟨g,0,ZB⟩) xs.length c YG 338 (by rw[bkK _ h2];kernel_rfl) (.func 276) #[] #[.pointer (ZA ⟨Bx,0,ZB⟩)] w (λw'=>∃ys,ys.Perm xs/\ys.Pairwise (λa b=>qt b a=ZD)/\Own w' B 177 (.slice (ZA ⟨g,0,ZB⟩) xs.length c) ys/\mA (λb=>B<=b/\b≠Bx) w w') ?_
  rw[lB];have hu:Up w (stableWorld prog Tryz.zy 29 (ZA ⟨g,0,ZB⟩) xs.length c w):=by unfold stableWorld;exact Up.al _ (Up.al _ (Up.rfl' w))
  generalize stableWorld prog Tryz.zy 29 (ZA ⟨g,0,ZB⟩) xs.length c w=w1 at hu⊢
  have hS1:=hS.more hu;have xu:=Zgr (enc:=eo.cells (α:=aj)) (k:=4) (λ_=>rfl) 276 #[.pointer (ZA ⟨Bx,0,ZB⟩)] 338 #[.slice (ZA ⟨g,0,ZB⟩) xs.length c,typeHandle prog 177] xs.length hlen hsw Hd (enters_of func276 YK rfl) (d:=xs.toArray) YJ hS1.self (xI.on hS1)
  refine xu.mono ?_;rintro e w' ⟨rfl,e,Sa,Od,Vh⟩;have hE:=hS1.trans Sa;have uV:e.size=xs.length:=by rw[Od.1];simp
  have sA:=Zgu (B:=B) (c:=c) hE hB YG Kd;rw[uV]at sA
  refine⟨rfl,e.toList,?_,?_,sA,⟨hE.up.os,hE.up.tape,hE.up.output,hE.up.size,λb hb hn=>hE.up.block b hb λh=>hn ⟨h▸hB,λh'=>dX (h'▸h.symm▸rfl)⟩⟩⟩
  ·have hp:=Od.2.2
   rw[<-uV]at hp
   rw[Array.extract_size]at hp
   rw[uV]at hp
   have h3:xs.toArray.extract 0 xs.length=xs.toArray:=by simp
   rw[h3]at hp
   simpa using hp
  ·rw[List.pairwise_iff_getElem]
   intro i j hi hj C9;have:=Vh i j YG C9 (by rw[Wn]at hj;omega)
   rw[getElem!_pos e j (by rw[Wn]at hj;exact hj),getElem!_pos e i (by rw[Wn]at hi;exact hi)]at this
   simpa using this
end Go.Proofs.YtbalgkakkoocjaaGreat
