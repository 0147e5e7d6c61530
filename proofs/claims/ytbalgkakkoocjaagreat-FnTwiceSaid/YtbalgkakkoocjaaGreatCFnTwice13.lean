/- A part of the proof of the statement in the last file of this claim: texts on the language of the program and on its functions. No condition. -/
import Derived.Test.YtbalgkakkoocjaaGreatCFnTwice4
import Derived.Test.YtbalgkakkoocjaaGreatCFnTwice5
import Derived.Test.YtbalgkakkoocjaaGreatCFnTwice10
import Derived.Test.YtbalgkakkoocjaaGreatCFnTwice9
import Derived.Test.YtbalgkakkoocjaaGreatCFnTwice12
import Derived.Test.YtbalgkakkoocjaaGreatCFnTwice11
import Derived.Shelf.GgSortMore.Stable
import Derived.Test.YtbalgkakkoocjaaGreatCFnTwice6
set_option linter.unusedVariables false
set_option linter.unusedSimpArgs false
set_option linter.unusedSectionVars false
open Option.some renaming inj→VV
open Nat renaming lt_of_lt_of_le→Xa,lt_or_ge→WB,zero_add→Wb
open List renaming getElem?_map→Wj,ext_getElem?→Yj,getElem?_eq_none→Wy,getElem?_take→WN
open Option renaming map_eq_some_iff→Ww,bind_some→VS
open _root_.Array renaming getElem?_toList→Wh,getElem?_eq_getElem→V9,length_toList→Wk
namespace Go.Proofs.YtbalgkakkoocjaaGreat
set_option maxRecDepth 10000
open Go.RowKit
set_option maxHeartbeats 16000000
def kE(bH:Int)(s0:Int×Int×Int×Int×(List bM)×(List Int)×(List az)×(List ao)×(List au)×(List br)×(List Int)):Option ((Int×Int×Int×Int×(List bM)×(List Int)×(List az)×(List ao)×(List au)×(List br)×(List Int))⊕(Int×Int×Int×(List bM)×(List Int)×(List az)×(List ao)×(List au)×(List br)×(List Int))):=
 cond (decide (s0.1<240))
 ((mF (⟨(⟨s0.2.2.2.2.1,s0.2.2.2.2.2.1,s0.2.1⟩:aj),s0.2.2.2.2.2.2.1,s0.2.2.2.2.2.2.2.1,s0.2.2.2.2.2.2.2.2.1,s0.2.2.1,s0.2.2.2.2.2.2.2.2.2.1,s0.2.2.2.2.2.2.2.2.2.2,s0.2.2.2.1⟩:av)).bind fun y4=>
 cond (decide (y4<0))
 (some (.inr (s0.2.1,s0.2.2.1,s0.2.2.2.1,s0.2.2.2.2.1,s0.2.2.2.2.2.1,s0.2.2.2.2.2.2.1,s0.2.2.2.2.2.2.2.1,s0.2.2.2.2.2.2.2.2.1,s0.2.2.2.2.2.2.2.2.2.1,s0.2.2.2.2.2.2.2.2.2.2)))
 (cond (decide (bH<y4))
 (some (.inr (s0.2.1,s0.2.2.1,s0.2.2.2.1,s0.2.2.2.2.1,s0.2.2.2.2.2.1,s0.2.2.2.2.2.2.1,s0.2.2.2.2.2.2.2.1,s0.2.2.2.2.2.2.2.2.1,s0.2.2.2.2.2.2.2.2.2.1,s0.2.2.2.2.2.2.2.2.2.2)))
 ((bh [1,2,3,4,5,6,7,8]).bind fun _=>
 (nz (⟨(⟨s0.2.2.2.2.1,s0.2.2.2.2.2.1,s0.2.1⟩:aj),s0.2.2.2.2.2.2.1,s0.2.2.2.2.2.2.2.1,s0.2.2.2.2.2.2.2.2.1,s0.2.2.1,s0.2.2.2.2.2.2.2.2.2.1,s0.2.2.2.2.2.2.2.2.2.2,s0.2.2.2.1⟩:av) y4).bind fun y5=>
 some (.inl ((aL (s0.1+1)),y5.aa.change,y5.now,y5.bd,y5.aa.ay,y5.aa.off,y5.ah,y5.aq,y5.ae,y5.aH,y5.skip)))))
 (some (.inr (s0.2.1,s0.2.2.1,s0.2.2.2.1,s0.2.2.2.2.1,s0.2.2.2.2.2.1,s0.2.2.2.2.2.2.1,s0.2.2.2.2.2.2.2.1,s0.2.2.2.2.2.2.2.2.1,s0.2.2.2.2.2.2.2.2.2.1,s0.2.2.2.2.2.2.2.2.2.2)))
instance (bH:Int):bm (kE bH):=⟨fun s0=>(.un::vi bH::.un::.un::.be 0 0 0::.be 1 0 0::vi s0.1::(U 32 [])),fun s0=>[some ⟨.of 33,10,[[.v (.slice none 0 0),.v (.slice none 0 0),vi 0,.v (.slice none 0 0),.v (.slice none 0 0),.v (.slice none 0 0),vi 0,.v (.slice none 0 0),.v (.slice none 0 0),vi 0]]⟩,some ⟨.of 33,10,[[.ms 2,.ms 3,vi s0.2.1,.ms 4,.ms 5,.ms 6,vi s0.2.2.1,.ms 7,.ms 8,vi s0.2.2.2.1]]⟩,some ⟨.of 174,6,s0.2.2.2.2.1.map bp⟩,some ⟨.of 3,1,s0.2.2.2.2.2.1.map aG⟩,some ⟨.of 155,11,s0.2.2.2.2.2.2.1.map bc⟩,some ⟨.of 177,4,s0.2.2.2.2.2.2.2.1.map aB⟩,some ⟨.of 46,2,s0.2.2.2.2.2.2.2.2.1.map aS⟩,some ⟨.of 181,6,s0.2.2.2.2.2.2.2.2.2.1.map bt⟩,some ⟨.of 3,1,s0.2.2.2.2.2.2.2.2.2.2.map aG⟩]⟩
def db(w:av)(bH:Int):Option av:=
 (ep w).bind fun y1=>
 (fu w).bind fun y2=>
 cond (!y2)
 (some y1)
 ((bg bH w.now 100000).bind fun y3=>
 cond (!y3)
 (some y1)
 ((aD (kE bH) NN (0,y1.aa.change,y1.now,y1.bd,y1.aa.ay,y1.aa.off,y1.ah,y1.aq,y1.ae,y1.aH,y1.skip)).bind (fun o0=>
 some (⟨(⟨o0.2.2.2.1,o0.2.2.2.2.1,o0.1⟩:aj),o0.2.2.2.2.2.1,o0.2.2.2.2.2.2.1,o0.2.2.2.2.2.2.2.1,bH,o0.2.2.2.2.2.2.2.2.1,o0.2.2.2.2.2.2.2.2.2,o0.2.2.1⟩:av))))
instance (w:av)(bH:Int):CT Tryz.prog (db w bH):=⟨138,[.ag (fK w),vi bH],[],fun r=>.ag [.ms 0,.ms 1,vi r.aa.change,.ms 2,.ms 3,.ms 4,vi r.now,.ms 5,.ms 6,vi r.bd],fun r=>[some ⟨.of 174,6,r.aa.ay.map bp⟩,some ⟨.of 3,1,r.aa.off.map aG⟩,some ⟨.of 155,11,r.ah.map bc⟩,some ⟨.of 177,4,r.aq.map aB⟩,some ⟨.of 46,2,r.ae.map aS⟩,some ⟨.of 181,6,r.aH.map bt⟩,some ⟨.of 3,1,r.skip.map aG⟩],fun H=>by replace H:=H0 H;unfold db at H;exact aA Tryz.func138 rfl Tryz.ntmps138 Tryz.results138 fun Q hQ cR=>dU⟩
end Go.Proofs.YtbalgkakkoocjaaGreat
namespace Go.Proofs.YtbalgkakkoocjaaGreat
set_option maxRecDepth 10000
open Go.RowKit Go.Lib Go.Sort
set_option maxRecDepth 100000
set_option maxHeartbeats 4000000
variable {O:Nat→Prop}{v:Value}{w:World}
instance:dT ao where
 cells x:=[I x.bk,I x.bf.bx,I x.bf.day,I x.ab]
 k:=4
 len _:=rfl
 pos:=by decide
 one:=by simp[Value.oneCell',I]
instance:dT au where
 cells x:=[I x.bx,I x.day]
 k:=2
 len _:=rfl
 pos:=by decide
 one:=by simp[Value.oneCell',I]
instance:xm aB (id:ao→ao):=⟨fun x=>rfl,fun x j p h=>by
 match j with
 |0=>obtain rfl:_=p:=VV h
     exact⟨_,rfl,rfl⟩
 |1=>obtain rfl:_=p:=VV h
     exact⟨_,rfl,rfl⟩
 |2=>obtain rfl:_=p:=VV h
     exact⟨_,rfl,rfl⟩
 |3=>obtain rfl:_=p:=VV h
     exact⟨_,rfl,rfl⟩
 |j+4=>simp[aB]at h⟩
instance:xm aS (id:au→au):=⟨fun x=>rfl,fun x j p h=>by
 match j with
 |0=>obtain rfl:_=p:=VV h
     exact⟨_,rfl,rfl⟩
 |1=>obtain rfl:_=p:=VV h
     exact⟨_,rfl,rfl⟩
 |j+2=>simp[aS]at h⟩
instance:Inhabited ao:=⟨⟨0,⟨0,0⟩,0⟩⟩
theorem Bo(a b:ao):nj a b=true↔a.bf.day<b.bf.day∨(a.bf.day=b.bf.day∧(a.bf.bx<b.bf.bx∨(a.bf.bx=b.bf.bx∧a.bk<b.bk))):=by
 unfold nj
 repeat' split
 all_goals simp only[decide_eq_true_eq]
 all_goals omega
theorem wa(a b:ao):nj a b=false↔¬(a.bf.day<b.bf.day∨(a.bf.day=b.bf.day∧(a.bf.bx<b.bf.bx∨(a.bf.bx=b.bf.bx∧a.bk<b.bk)))):=by
 rw[←Bo];simp
theorem BF:SWO nj:=⟨fun x=>(wa _ _).2 (by omega),fun x y z h1 h2=>(Bo _ _).2 (by have:=(Bo _ _).1 h1;have:=(Bo _ _).1 h2;omega),fun x y z h1 h2=>(wa _ _).2 (by have:=(wa _ _).1 h1;have:=(wa _ _).1 h2;omega)⟩
theorem GJ{b:Nat}:¬nL (fun _=>none) b:=by rintro⟨l,B,h,_⟩;cases h
theorem iZ.ZdR{P:Program}{f:FuncId}{args:List PV}{val:Value}(h:iZ P f args [] (.v val) [])(ht:HY w (nL fun _=>none)){vs:Array Value}(hl:vs.size=args.length)(ha:∀(i:Nat) (p:PV),args[i]?=some p→∃x,vs[i]?=some x∧dL w (E1 (fun b=>b<w.heap.size) (fun _=>none) 0) p x):
 Calls P f vs w fun e w'=>e=.returned val∧Up w w':=by
 have ik:Ok w (nL fun _=>none) (E1 (fun b=>b<w.heap.size) (fun _=>none) 0) w []:=
  ⟨FX.refl _ _,fun b h=>h,fun l B h=>(by cases h),fun l l' B B' h=>(by cases h),fun l h=>absurd h (Nat.not_lt_zero l),fun l B h=>(by cases h),fun l mb h=>(by simp at h),fun l B h=>(by cases h),ht,fun _ _ h=>h.elim⟩
 refine(h (fun b=>b<w.heap.size) (fun _=>none) w vs (fun _ _=>False) ik hl ha).mono ?_
 rintro e w' ⟨v,E',rfl,hk,_,_,_,hr⟩
 obtain⟨rfl,_⟩:=hr.iG
 exact⟨rfl,hk.up.os,hk.up.tape,hk.up.output,hk.up.size,fun b hb=>hk.up.block b hb GJ⟩
theorem Ma{w w':World}{O O':Nat→Prop}(h:HY w O)(hu:FX O' w w')(hO:∀b,b<w.heap.size→O' b→O b):HY w' (nL fun _=>none):=by
 obtain⟨T,h1,h2⟩:=h
 exact⟨T,fun b hb=>⟨Xa (h1 b hb).1 hu.size,GJ⟩,fun w'' Zbl=>h2 w'' fun b hb=>(Zbl b hb).trans (hu.block b (h1 b hb).1 fun h=>(h1 b hb).2 (hO b (h1 b hb).1 h))⟩
theorem Nh{α β:Type}[dT β]{c:α→List PV}(g:α→β)[hf:xm c g]{A:Option Addr}{n:Nat}{xs:List α}(h:Rd w w.heap.size A (xs.map g))(hn:xs.length≤n)(hm:n≤maxLen):fA w (fun b=>b<w.heap.size) (.sl (xs.map c)) (.slice A xs.length n):=by
 by_cases h0:xs=[]
 ·subst h0;exact .nil _ _
 obtain⟨b,off,rfl,hb,hc⟩:=h (by simpa using h0)
 have hlen:(xs.map c).length=xs.length:=by simp
 have key:∀(i:Nat) (cs:List PV) (j:Nat) (p:PV),(xs.map c)[i]?=some cs→cs[j]?=some p→∃u,w.cell? ⟨b,off+i*dT.k β+j,none⟩=some u∧u.oneCell'=true∧p=.v u:=by
  intro i cs j p hi hj
  rw[Wj]at hi
  obtain⟨x,hx,rfl⟩:=Ww.1 hi
  obtain⟨u,hu,hp⟩:=hf.aO x j p hj
  have EV:=uy (xs:=xs.map g) (i:=i) (x:=g x) (by rw[Wj,hx];rfl) hu
  exact⟨u,by rw[Nat.add_assoc];exact hc _ u EV,dT.one _ u (List.mem_of_getElem? hu),hp⟩
 rw[←hlen]
 exact .sl _ b off (dT.k β) n (fun i j=>(w.cell? ⟨b,off+i*dT.k β+j,none⟩).getD .nilIface) hb dT.pos (by rw[hlen];exact hn) hm
  (fun i cs hi=>by
   rw[Wj]at hi
   obtain⟨x,_,rfl⟩:=Ww.1 hi
   exact hf.len x)
  (fun i cs j p hi hj=>by obtain⟨u,x1,_⟩:=key i cs j p hi hj;rw[x1];rfl)
  (fun i cs j p hi hj=>by obtain⟨u,x1,x2,_⟩:=key i cs j p hi hj;rw[x1];exact x2)
  (fun i cs j p hi hj=>by obtain⟨u,x1,x2,rfl⟩:=key i cs j p hi hj;rw[x1];exact .v u x2)
section
variable {β:Type} [dT β] [Inhabited β]
theorem Cu(d:Array β):(flatK dT.cells (dT.k β) d).toList=flat d.toList:=by
 apply Yj
 intro t
 have hk:0<dT.k β:=dT.pos
 rcases WB t (d.size*dT.k β)with h|h
 ·have h1:t<(flatK dT.cells (dT.k β) d).size:=by rw[size_flatK];exact h
  have hi:t / dT.k β<d.size:=by rw[Nat.div_lt_iff_lt_mul hk];exact h
  have hj:=Nat.mod_lt t hk
  have e0:t / dT.k β*dT.k β+t % dT.k β=t:=by rw[Nat.mul_comm];exact Nat.div_add_mod t _
  have hc:(dT.cells d[t / dT.k β]!)[t % dT.k β]?=some ((dT.cells d[t / dT.k β]!)[t % dT.k β]'(by rw[dT.len];exact hj)):=List.getElem?_eq_getElem _
  have hf:=uy (xs:=d.toList) (i:=t / dT.k β) (x:=d[t / dT.k β]!) (by rw[Wh,getElem!_pos d _ hi];exact V9 hi) hc
  rw[e0]at hf
  rw[hf,Wh,V9 h1,←getElem!_pos,get_flatK _ _ _ _ h]
  rw[getElem!_pos _ _ (by rw[dT.len];exact hj)]
 ·rw[Wy (by rw[Wk,size_flatK];exact h),Wy (by rw[nZ,Wk];exact h)]
theorem ZbE{B E:Nat}{xs:List β}(h:Own w B E v xs)(h2:0<xs.length):
 ∃g c,v=.slice (some ⟨g,0,none⟩) xs.length c∧B≤g∧xs.length≤c∧c≤maxLen∧SU (dT.cells (α:=β)) (dT.k β) g E (c*dT.k β) w xs.toArray w:=by
 rcases h.2 with⟨_,h0⟩ |⟨g,cap,cur,hv,hB,hg,wU,IZ,qF,ht⟩
 ·omega
 refine⟨g,cap,hv,hB,wU,IZ,FX.refl _ _,?_,cur,hg,qF⟩
 intro t PW
 rw[size_flatK]at PW
 have EV:(flatK (dT.cells (α:=β)) (dT.k β) xs.toArray).toList=flat xs:=by rw[Cu]
 refine⟨?_,by simp[World.frozen?,hg]⟩
 rw[Wb,cell_of_row w g t cur E (0,0) hg]
 have h1:t<(flatK (dT.cells (α:=β)) (dT.k β) xs.toArray).size:=by rw[size_flatK];exact PW
 have h3:(flat xs)[t]?=some (id (flatK (dT.cells (α:=β)) (dT.k β) xs.toArray)[t]!):=by
  rw[←EV,Wh,getElem!_pos (flatK (dT.cells (α:=β)) (dT.k β) xs.toArray) t h1]
  exact V9 h1
 rw[←ht,WN]at h3
 split at h3
 ·rw[←Wh];exact h3
 ·cases h3
theorem SZ{w0 W:World}{B E g c:Nat}{d:Array β}(h:SU (dT.cells (α:=β)) (dT.k β) g E (c*dT.k β) w0 d W)(hB:B≤g)(hn:d.size≤c)(hm:c≤maxLen):Own W B E (.slice (some ⟨g,0,none⟩) d.size c) d.toList:=by
 obtain⟨cur,hg,qF⟩:=h.row
 refine⟨by rw[nZ],.inr ⟨g,c,cur,by rw[Wk],hB,hg,by rw[Wk];exact hn,hm,qF,?_⟩⟩
 rw[←Cu]
 have hle:d.size*dT.k β≤c*dT.k β:=Nat.mul_le_mul_right _ hn
 apply Yj
 intro t
 rw[WN,Wk]
 split
 ·rename_i ht
  have h1:t<(flatK (dT.cells (α:=β)) (dT.k β) d).size:=by rw[size_flatK];exact ht
  have hh:=(h.hold t h1).1
  rw[Wb,cell_of_row W g t cur E (0,0) hg,getElem!_pos (flatK (dT.cells (α:=β)) (dT.k β) d) t h1]at hh
  rw[Wh,Wh,hh]
  exact(V9 h1).symm
 ·rename_i ht
  rw[Wy (by rw[Wk,size_flatK];omega)]
end
theorem JU{E:Env}(x:Value)(h:x.oneCell'=true):dL w E (.v x) x:=.c (.v x h)
theorem UR{g c n Bx:Nat}{w0:World}(hx:w0.cell? ⟨Bx,0,none⟩=some (.slice (some ⟨g,0,none⟩) n c))(hBx:Bx<w0.heap.size)(iw:Bx≠g)(wU:n≤c)(hm:c≤maxLen)(ht:HY w0 O)(hO:O g):
 sX 276 #[.pointer (some ⟨Bx,0,none⟩)] (dT.cells (α:=ao)) 4 nj g 177 (c*4) n w0:=by
 intro d W hS hd i j hi hj
 have hn:d.toList.length=n:=by rw[Wk,hd]
 have gi:aC d.toList (i:Int)=some d[i]!:=by rw[aR,Wh,getElem!_pos d i (by omega)];exact V9 _
 have gj:aC d.toList (j:Int)=some d[j]!:=by rw[aR,Wh,getElem!_pos d j (by omega)];exact V9 _
 obtain⟨v,hv,hvb⟩:=EC d[i]! d[j]!
 have H:oN (i:Int) (j:Int) d.toList=some (nj d[i]! d[j]!):=by
  unfold oN
  rw[gi,VS,gj,VS,hv,VS]
  cases hb:nj d[i]! d[j]! with
  |true=>rw[hb]at hvb;have:=of_decide_eq_false hvb;rw[decide_eq_true (by omega)]
  |false=>rw[hb]at hvb;have:=of_decide_eq_true hvb;rw[decide_eq_false (by omega)]
 have hC:=CT.ok (P:=Tryz.prog) H
 simp only[CT.f,CT.args,CT.m0,CT.res,CT.mem]at hC
 have yx:W.cell? ⟨Bx,0,none⟩=some (.slice (some ⟨g,0,none⟩) n c):=(hS.AL hBx iw).trans hx
 have Tj:Rd W W.heap.size (some ⟨g,0,none⟩) (d.toList.map id):=by
  have:=(SZ (B:=g) hS (Nat.le_refl _) (by omega) hm).rd
  rw[List.map_id]
  exact this
 have hrs:=Nh (c:=aB) (id:ao→ao) Tj (n:=c) (by omega) hm
 rw[hn]at hrs
 refine(iZ.ZdR hC (w:=W) (Ma ht hS.up fun b _ h=>h▸hO) rfl fun idx p hp=>?_).mono ?_
 ·match idx with
  |0=>obtain rfl:_=p:=VV hp
      exact⟨_,rfl,JU _ rfl⟩
  |1=>obtain rfl:_=p:=VV hp
      exact⟨_,rfl,JU _ rfl⟩
  |2=>obtain rfl:_=p:=VV hp
      refine⟨_,rfl,.c (.rp _ Bx 0 (fun _=>.slice (some ⟨g,0,none⟩) n c) (Xa hBx hS.up.size) (fun j p hp=>?_) (fun j p hp=>rfl) fun j p hp=>?_)⟩
      ·match j with
       |0=>exact yx
       |j+1=>simp at hp
      ·match j with
       |0=>obtain rfl:_=p:=VV hp
           exact hrs
       |j+1=>simp at hp
  |idx+3=>simp at hp
 ·rintro e w' ⟨rfl,hu⟩
  exact⟨rfl,hu⟩
noncomputable def bkT:TypeInfo:=(Tryz.prog.info? 29).get (by kernel_rfl)
noncomputable def TB:TypeInfo:=(Tryz.prog.info? 177).get (by kernel_rfl)
theorem bkK(n:Nat)(h2:2≤n):Lib.swapperK n TB 25=9:=by
 have a:TB.hasPointers=false:=by kernel_rfl
 have b:TB.bytes=32:=by kernel_rfl
 have c:(n==0)=false:=by simp;omega
 have d:(n==1)=false:=by simp;omega
 simp[Lib.swapperK,a,b,c,d]
theorem Ug(w:World)(os:Array Obj):Up w (grow w os):=⟨rfl,rfl,rfl,by rw[size_grow];omega,fun b hb=>heap_grow_old w os hb⟩
theorem VI{B Bx:Nat}{xs:List ao}(ho:Own w B 177 v xs)(hx:w.heap[Bx]?=some (.cells #[v] 29 (0,0)))(hn:xs.length≤1048576)(ht:HY w O)(hO:∀b,B≤b→O b):
 Calls Tryz.prog 275 #[.iface 29 v,.func (.func 276) #[] #[.pointer (some ⟨Bx,0,none⟩)]] w fun e w'=>e=.returned (.tuple #[])∧∃ys,ys.Perm xs∧ys.Pairwise (fun a b=>nj b a=false)∧Own w' B 177 v ys∧FX (fun b=>B≤b∧b≠Bx) w w':=by
 by_cases h2:2≤xs.length
 case neg=>
  obtain⟨A,c,rfl,_,_⟩:=ho.form
  have hR:=Tryz.GA
  have key : ∀ f, Tryz.prog.funcs.findIdx? (·.name == "internal/reflectlite" ++ ".Swapper$" ++ toString (Lib.swapperK xs.length TB 25)) = some f → Calls Tryz.prog 275 #[.iface 29 (.slice A xs.length c), .func (.func 276) #[] #[.pointer (some ⟨Bx, 0, none⟩)]] w fun e w' => e = .returned (.tuple #[]) ∧ ∃ os, w' = grow w os := fun f hf =>
   Any.sort_SliceStable_tiny Tryz.GA 29 177 bkT TB (by kernel_rfl) (by kernel_rfl) (by kernel_rfl) (by kernel_rfl) 25 (fun _=>by kernel_rfl) A xs.length c (by omega) f hf _ _ _ w
  have Zfo : ∃ f, Tryz.prog.funcs.findIdx? (·.name == "internal/reflectlite" ++ ".Swapper$" ++ toString (Lib.swapperK xs.length TB 25)) = some f := by
   rcases WB 0 xs.length with h|h
   ·rw[show xs.length=1 by omega]
    exact⟨331,by kernel_rfl⟩
   ·rw[show xs.length=0 by omega]
    exact⟨330,by kernel_rfl⟩
  obtain⟨f,hf⟩:=Zfo
  refine(key f hf).mono ?_
  rintro e w' ⟨rfl,os,rfl⟩
  have hu:=Ug w os
  refine⟨rfl,xs,List.Perm.refl _,?_,ho.up hu,⟨hu.os,hu.tape,hu.output,hu.size,fun b hb _=>hu.block b hb⟩⟩
  match xs,h2 with
  | [],_=>exact .nil
  | [x],_=>simp
  |x::y::l,h2=>simp at h2
 case pos=>
  obtain⟨g,c,rfl,hB,wU,IZ,hS⟩:=ZbE ho (by omega)
  have Zfa:=hS.row
  have iw:Bx≠g:=by
   rintro rfl
   obtain⟨cells,h1,_⟩:=Zfa
   rw[hx]at h1
   simp at h1
  have hBx:Bx<w.heap.size:=(Array.getElem?_eq_some_iff.1 hx).1
  have yx:w.cell? ⟨Bx,0,none⟩=some (.slice (some ⟨g,0,none⟩) xs.length c):=by rw[cell_of_row w Bx 0 _ _ (0,0) hx];rfl
  have hlen:xs.length<1152921504606846976:=by omega
  have kL:sliceBound Tryz.prog 177 TB 25 (some ⟨g,0,none⟩) xs.length c=#[.slice (some ⟨g,0,none⟩) xs.length c,typeHandle Tryz.prog 177]:=by
   unfold sliceBound;rw[if_neg (swapperK_gt _ _ _ h2)]
  have Tk:SwapSwapsK Tryz.prog 338 #[.slice (some ⟨g,0,none⟩) xs.length c,typeHandle Tryz.prog 177] (dT.cells (α:=ao)) 4 g 0 xs.length:=
   swapSwapsK_of_literal false 338 (fun args W=>run_callFunc_extern Tryz.func338 (by kernel_rfl) (by kernel_rfl) (by kernel_rfl) (e:=Extern.ReflectliteSwapper.swap false) (by kernel_rfl) args W) 177 TB (by kernel_rfl) (dT.cells (α:=ao)) 4 (fun _=>rfl) (by kernel_rfl) (fun _=>by kernel_rfl) dT.one g 0 xs.length c
  have tR:=UR (n:=xs.length) yx hBx iw wU IZ ht (hO g hB)
  refine Any.sort_SliceStable_of_stable Tryz.GA 29 177 bkT TB (by kernel_rfl) (by kernel_rfl) (by kernel_rfl) (by kernel_rfl) 25 (fun _=>by kernel_rfl) (some ⟨g,0,none⟩) xs.length c (by omega) 338 (by rw[bkK _ h2];kernel_rfl) (.func 276) #[] #[.pointer (some ⟨Bx,0,none⟩)] w (fun w'=>∃ys,ys.Perm xs∧ys.Pairwise (fun a b=>nj b a=false)∧Own w' B 177 (.slice (some ⟨g,0,none⟩) xs.length c) ys∧FX (fun b=>B≤b∧b≠Bx) w w') ?_
  rw[kL]
  have hu:Up w (stableWorld Tryz.prog Tryz.vD 29 (some ⟨g,0,none⟩) xs.length c w):=by unfold stableWorld;exact Up.al _ (Up.al _ (Up.rfl' w))
  generalize stableWorld Tryz.prog Tryz.vD 29 (some ⟨g,0,none⟩) xs.length c w=w1 at hu⊢
  have Tc:=hS.more hu
  have rD:=SR (enc:=dT.cells (α:=ao)) (k:=4) (fun _=>rfl) 276 #[.pointer (some ⟨Bx,0,none⟩)] 338 #[.slice (some ⟨g,0,none⟩) xs.length c,typeHandle Tryz.prog 177] xs.length hlen Tk BF (enters_of Tryz.func276 (by kernel_rfl) rfl) (d:=xs.toArray) (by simp) Tc.self (tR.on Tc)
  refine rD.mono ?_
  rintro e w' ⟨rfl,e,Kn,Hv,MM⟩
  have hE:=Tc.trans Kn
  have Bu:e.size=xs.length:=by rw[Hv.1];simp
  have pZ:=SZ (B:=B) (c:=c) hE hB (by omega) IZ
  rw[Bu]at pZ
  refine⟨rfl,e.toList,?_,?_,pZ,⟨hE.up.os,hE.up.tape,hE.up.output,hE.up.size,fun b hb hn=>hE.up.block b hb fun h=>hn ⟨h▸hB,fun h'=>iw (h'▸h.symm▸rfl)⟩⟩⟩
  ·have hp:=Hv.2.2
   rw[←Bu]at hp
   rw[Array.extract_size]at hp
   rw[Bu]at hp
   have h3:xs.toArray.extract 0 xs.length=xs.toArray:=by simp
   rw[h3]at hp
   simpa using hp
  ·rw[List.pairwise_iff_getElem]
   intro i j hi hj xa
   have:=MM i j (by omega) xa (by rw[Wk]at hj;omega)
   rw[getElem!_pos e j (by rw[Wk]at hj;exact hj),getElem!_pos e i (by rw[Wk]at hi;exact hi)]at this
   simpa using this
end Go.Proofs.YtbalgkakkoocjaaGreat
namespace Go.Proofs.YtbalgkakkoocjaaGreat
set_option maxRecDepth 10000
open Go.RowKit
set_option maxHeartbeats 16000000
def cV(w:av)(cG:ByteArray)(aV:ByteArray)(ax:Int)(ab:Int):Option (av×Int×Bool):=
 (ep w).bind fun y1=>
 (fu w).bind fun y2=>
 cond (!y2)
 (some (y1,0,false))
 (cond (decide (30≤(w.ah.length:Int)))
 (some (y1,0,false))
 (cond (decide (cG=aV))
 (some (y1,0,false))
 ((bg ax 1 3).bind fun y3=>
 cond (!y3)
 (some (y1,0,false))
 ((bg ab 1 30000).bind fun y4=>
 cond (!y4)
 (some (y1,0,false))
 ((bE w.aa w.aq w.ae cG aV (aL (w.now+1)) ab).bind fun y5=>
 (ck w.aa w.aq (aL ((w.ah.length:Int)+1)) ab y5.1).bind fun y6=>
 cond (!y5.2)
 (some (y1,0,false))
 (cond (!y6.2)
 (some (y1,0,false))
 ((j8 w.aa ax cG aV (aL (w.now+1))).bind fun y7=>
 (A8 (.un::vs cG::(U 3 (.be 0 0 0::(U 4 (.be 1 0 0::.un::.un::.be 2 0 0::.un::.un::vi (aL ((w.ah.length:Int)+1))::.un::.un::.be 10 0 0::(U 99 [])))))) [some ⟨.of 33,10,[[.sl (w.aa.ay.map bp),.sl (w.aa.off.map aG),vi w.aa.change,.sl (w.ah.map bc),.sl (w.aq.map aB),.sl (w.ae.map aS),vi w.now,.sl (w.aH.map bt),.sl (w.skip.map aG),vi w.bd]]⟩,some ⟨.of 33,10,[[.v (.slice none 0 0),.v (.slice none 0 0),vi 0,.v (.slice none 0 0),.v (.slice none 0 0),.v (.slice none 0 0),vi 0,.v (.slice none 0 0),.v (.slice none 0 0),vi 0]]⟩,some ⟨.of 33,10,[[.ms 3,.ms 4,vi y1.aa.change,.ms 5,.ms 6,.ms 7,vi y1.now,.ms 8,.ms 9,vi y1.bd]]⟩,some ⟨.of 174,6,y1.aa.ay.map bp⟩,some ⟨.of 3,1,y1.aa.off.map aG⟩,some ⟨.of 155,11,y1.ah.map bc⟩,some ⟨.of 177,4,y6.1.map aB⟩,some ⟨.of 46,2,y1.ae.map aS⟩,some ⟨.of 181,6,y1.aH.map bt⟩,some ⟨.of 3,1,y1.skip.map aG⟩,some ⟨.of 155,11,[[vs cG,vs aV,vi ax,vi ab,vi w.now,vi y7,.sl (y5.1.map aS),vi 0,vi 1,vs cG,vi 0]]⟩]).bind fun _=>
 (cL (bo ((y1.ah:List az).length+([(⟨cG,aV,ax,ab,w.now,y7,y5.1,0,1,cG,0⟩:az)]:List az).length) 128)).bind fun _=>
 (bh [2,3,4,12,6,7,8,9]).bind fun _=>
 (fS (⟨y1.aa,((y1.ah:List az)++[(⟨cG,aV,ax,ab,w.now,y7,y5.1,0,1,cG,0⟩:az)]),y6.1,y1.ae,y1.now,y1.aH,y1.skip,y1.bd⟩:av) (⟨(aL ((w.ah.length:Int)+1)),w.now,1,cG,(⟨0,0⟩:au)⟩:br)).bind fun y8=>
 some (y8,(aL ((w.ah.length:Int)+1)),true))))))))
instance (w:av)(cG:ByteArray)(aV:ByteArray)(ax:Int)(ab:Int):CT Tryz.prog (cV w cG aV ax ab):=⟨233,[.ag (fK w),vs cG,vs aV,vi ax,vi ab],[],fun r=>.tu [.ag [.ms 0,.ms 1,vi r.1.aa.change,.ms 2,.ms 3,.ms 4,vi r.1.now,.ms 5,.ms 6,vi r.1.bd],vi r.2.1,vb r.2.2],fun r=>[some ⟨.of 174,6,r.1.aa.ay.map bp⟩,some ⟨.of 3,1,r.1.aa.off.map aG⟩,some ⟨.of 155,11,r.1.ah.map bc⟩,some ⟨.of 177,4,r.1.aq.map aB⟩,some ⟨.of 46,2,r.1.ae.map aS⟩,some ⟨.of 181,6,r.1.aH.map bt⟩,some ⟨.of 3,1,r.1.skip.map aG⟩],fun H=>by replace H:=H0 H;unfold cV at H;exact aA Tryz.func233 rfl Tryz.ntmps233 Tryz.results233 fun Q hQ cR=>dU⟩
def lH(o:aM)(p:a8):Option (Int×aM):=
 (gS o.aY o.ba p).bind fun y1=>
 cond (!y1.2)
 (some (2,o))
 (cond (decide (y1.1=0))
 (some (2,o))
 ((ll 8 []).bind fun _=>
 (cV o.world p.ar p.label.aV p.label.ax p.ab).bind fun y2=>
 cond (!y2.2.2)
 (some (3,o))
 ((fr o.lines y2.2.1 y1.1 y2.1.now).bind fun y3=>
 cond (!decide (y3.2=0))
 (some (4,o))
 ((gw p).bind fun y4=>
 (cL (bo ((o.aK:List a8).length+([y4]:List a8).length) 88)).bind fun _=>
 some (0,(⟨y2.1,o.aY,o.ba,o.aN,((o.aK:List a8)++[y4]),y3.1,o.aF⟩:aM))))))
instance (o:aM)(p:a8):CT Tryz.prog (lH o p):=⟨136,[.be 0 0 0,.ag (bS p)],[some ⟨.of 40,16,[[.sl (o.world.aa.ay.map bp),.sl (o.world.aa.off.map aG),vi o.world.aa.change,.sl (o.world.ah.map bc),.sl (o.world.aq.map aB),.sl (o.world.ae.map aS),vi o.world.now,.sl (o.world.aH.map bt),.sl (o.world.skip.map aG),vi o.world.bd,.ms 1,.ms 2,.ms 3,.ms 4,.ms 5,.ms 6]]⟩,some ⟨.of 104,2,o.aY.map cK⟩,some ⟨.of 107,4,o.ba.map cO⟩,some ⟨.of 3,1,o.aN.map aG⟩,some ⟨.of 44,7,o.aK.map bS⟩,some ⟨.of 111,4,o.lines.map bO⟩,some ⟨.of 48,13,o.aF.map ig⟩],fun r=>vi r.1,fun r=>[some ⟨.of 40,16,[[.sl (r.2.world.aa.ay.map bp),.sl (r.2.world.aa.off.map aG),vi r.2.world.aa.change,.sl (r.2.world.ah.map bc),.sl (r.2.world.aq.map aB),.sl (r.2.world.ae.map aS),vi r.2.world.now,.sl (r.2.world.aH.map bt),.sl (r.2.world.skip.map aG),vi r.2.world.bd,.ms 1,.ms 2,.ms 3,.ms 7,.ms 8,.ms 6]]⟩,some ⟨.of 104,2,r.2.aY.map cK⟩,some ⟨.of 107,4,r.2.ba.map cO⟩,some ⟨.of 3,1,r.2.aN.map aG⟩,none,none,some ⟨.of 48,13,r.2.aF.map ig⟩,some ⟨.of 44,7,r.2.aK.map bS⟩,some ⟨.of 111,4,r.2.lines.map bO⟩],fun H=>by replace H:=H0 H;unfold lH at H;exact aA Tryz.func136 rfl Tryz.ntmps136 Tryz.results136 fun Q hQ cR=>Mb⟩
def j7(c:aP)(n:aj):Option (au×aP×aj):=
 (bh [0]).bind fun _=>
 (aw c (n.ay.length:Int)).bind fun y1=>
 (bh [0]).bind fun _=>
 (aw y1.2 10).bind fun y2=>
 (jd n y1.1 (aL (y2.1*1440))).bind fun y3=>
 cond (decide (0≤y3))
 ((bh [0]).bind fun _=>
 (bT y2.2 4).bind fun y4=>
 cond (!y4.1)
 (some ((⟨y1.1,y3⟩:au),y4.2,n))
 (some ((⟨y1.1,y2.1⟩:au),y4.2,n)))
 (some ((⟨y1.1,y2.1⟩:au),y2.2,n))
instance (c:aP)(n:aj):CT Tryz.prog (j7 c n):=⟨259,[.be 0 0 0,.ag [.ms 1,.ms 2,vi n.change]],[some ⟨.of 139,3,[[.sl (c.b.map cB8),vi c.i,vi c.h]]⟩,some ⟨.of 174,6,n.ay.map bp⟩,some ⟨.of 3,1,n.off.map aG⟩],fun r=>.ag [vi r.1.bx,vi r.1.day],fun r=>[some ⟨.of 139,3,[[.sl (r.2.1.b.map cB8),vi r.2.1.i,vi r.2.1.h]]⟩,some ⟨.of 174,6,r.2.2.ay.map bp⟩,some ⟨.of 3,1,r.2.2.off.map aG⟩],fun H=>by replace H:=H0 H;unfold j7 at H;exact aA Tryz.func259 rfl Tryz.ntmps259 Tryz.results259 fun Q hQ cR=>xW⟩
def lL(c:aP)(w:av):Option (au×aP×av):=
 cond (decide (0<(w.aq.length:Int)))
 ((bh [0]).bind fun _=>
 (bT c 4).bind fun y1=>
 cond (!y1.1)
 ((ll 8 [6]).bind fun _=>
 (bh [0]).bind fun _=>
 (aw y1.2 (w.aq.length:Int)).bind fun y2=>
 (aC w.aq y2.1).bind fun y3=>
 some (y3.bf,y2.2,w))
 ((bh [0,1,2]).bind fun _=>
 (j7 y1.2 w.aa).bind fun y4=>
 some (y4.1,y4.2.1,(⟨(⟨y4.2.2.ay,y4.2.2.off,w.aa.change⟩:aj),w.ah,w.aq,w.ae,w.now,w.aH,w.skip,w.bd⟩:av))))
 ((bh [0,1,2]).bind fun _=>
 (j7 c w.aa).bind fun y5=>
 some (y5.1,y5.2.1,(⟨(⟨y5.2.2.ay,y5.2.2.off,w.aa.change⟩:aj),w.ah,w.aq,w.ae,w.now,w.aH,w.skip,w.bd⟩:av)))
instance (c:aP)(w:av):CT Tryz.prog (lL c w):=⟨174,[.be 0 0 0,.ag [.ms 1,.ms 2,vi w.aa.change,.ms 3,.ms 4,.ms 5,vi w.now,.ms 6,.ms 7,vi w.bd]],[some ⟨.of 139,3,[[.sl (c.b.map cB8),vi c.i,vi c.h]]⟩,some ⟨.of 174,6,w.aa.ay.map bp⟩,some ⟨.of 3,1,w.aa.off.map aG⟩,some ⟨.of 155,11,w.ah.map bc⟩,some ⟨.of 177,4,w.aq.map aB⟩,some ⟨.of 46,2,w.ae.map aS⟩,some ⟨.of 181,6,w.aH.map bt⟩,some ⟨.of 3,1,w.skip.map aG⟩],fun r=>.ag [vi r.1.bx,vi r.1.day],fun r=>[some ⟨.of 139,3,[[.sl (r.2.1.b.map cB8),vi r.2.1.i,vi r.2.1.h]]⟩,some ⟨.of 174,6,r.2.2.aa.ay.map bp⟩,some ⟨.of 3,1,r.2.2.aa.off.map aG⟩,some ⟨.of 155,11,r.2.2.ah.map bc⟩,some ⟨.of 177,4,r.2.2.aq.map aB⟩,some ⟨.of 46,2,r.2.2.ae.map aS⟩,some ⟨.of 181,6,r.2.2.aH.map bt⟩,some ⟨.of 3,1,r.2.2.skip.map aG⟩],fun H=>by replace H:=H0 H;unfold lL at H;exact aA Tryz.func174 rfl Tryz.ntmps174 Tryz.results174 fun Q hQ cR=>xW⟩
end Go.Proofs.YtbalgkakkoocjaaGreat
