/- A part of the proof of the statement in the last file of this claim: texts on the language of the program and on its functions. No condition. -/
import Derived.Test.YtdilaemengjipaaGreatDoorCA30
import Derived.Test.YtdilaemengjipaaGreatDoorCA4
import Derived.Test.YtdilaemengjipaaGreatDoorCA9
import Derived.Test.YtdilaemengjipaaGreatDoorCA26
import Derived.Test.YtdilaemengjipaaGreatDoorCA11
import Derived.Test.YtdilaemengjipaaGreatDoorCA7
import Derived.Test.YtdilaemengjipaaGreatDoorCA8
import Derived.Sort.OwnSortedInts
import Derived.Test.YtdilaemengjipaaGreatDoorCA16
import Derived.Test.YtdilaemengjipaaGreatDoorCA1
set_option linter.unusedVariables false
set_option linter.unusedSimpArgs false
set_option linter.unusedSectionVars false
open Go.Value renaming int->YM
open Go.IntKind renaming i64->YN
open Go renaming undef->YO
open Option renaming some->YH,none->YI
open Bool renaming true->YJ,false->YK
open Decidable renaming decide->YL
open Go.Proofs.Tryz
set_option maxHeartbeats 40000000
open Option.some renaming inj->VW
open Nat renaming le_refl->VX
namespace Go.Proofs.YtdilaemengjipaaGreatDoor
set_option maxRecDepth 10000
open Go.RowKit Go.Lib Go.Sort
set_option maxRecDepth 100000
variable {l:List aU}{w:World}
instance :uR bC bO:=⟨λx=>rfl,λx j p h=>by
 match j with
 |0=>obtain rfl:_=p:=VW h
     exact⟨_,rfl,rfl⟩
 |1=>obtain rfl:_=p:=VW h
     exact⟨_,rfl,rfl⟩
 |2=>obtain rfl:_=p:=VW h
     exact⟨_,rfl,rfl⟩
 |3=>obtain rfl:_=p:=VW h
     exact⟨_,rfl,rfl⟩
 |j+4=>simp[bC]at h⟩
theorem LR(g cp n B:Nat)(zs:List Int)(w:World)(ho:Own w B 3 (.slice (YH ⟨g,0,YI⟩) n cp) zs)(hl:n=zs.length)(hn:n<=2000000):
 Calls prog 100 #[.slice (YH ⟨g,0,YI⟩) n cp] w λe w'=>e=.returned (.tuple #[])/\Own w' B 3 (.slice (YH ⟨g,0,YI⟩) n cp) (PH zs)/\w.grownBy w' (YH g):=by
 subst hl
 rcases ho.2 with⟨h0,_⟩ |⟨g',Zbr,cur,hv,hB,hg,va,Ef,sL,ht⟩
 ·cases h0
 ·obtain⟨rfl,rfl⟩:g=g'/\cp=Zbr:=by simpa using hv
  have Ei:cur.toList.take zs.length=zs.map (Value.int .i64):=by
   have:=ht;rw[show eQ.k Int=1 from rfl,Nat.mul_one,sr]at this
   exact this
  have hH:=holds_of_blockI hg Ei;refine(Tryz.sort_Ints g 0 cp zs w hH (Array.getElem?_eq_some_iff.1 hg).1 X9).mono ?_;rintro e w' ⟨rfl,m,os,rfl⟩;have hs:=ownsRow_sortedI (n:=m) (os:=os) (ss:=zs) (ts:=PH zs) (A7 zs) hB hg va Ef sL;refine⟨rfl,?_,grownBy_sortedI _⟩;unfold Own;rw[A7,sr];exact hs
theorem OX(A:Option Addr)(xs:List Ln)(c:Nat)(w:World)(hr:Rd w w.heap.size A xs)(hn:xs.length<=2000000)
 (hOw:∀(W:World) (o:Int),Up w W->Calls prog 49 #[.slice A xs.length c,YM YN o] W λe w'=>e=.returned (YM YN (j3 xs o))/\Up W w')
 (ZdM:∀(W:World) (g cp B:Nat) (ys:List Int) (o:Int),Up w W->ys.length<=1048576->Own W B 3 (.slice (YH ⟨g,0,YI⟩) ys.length cp) ys->Calls prog 99 #[.slice (YH ⟨g,0,YI⟩) ys.length cp,YM YN o] W λe w'=>e=.returned (.bool (B9 ys o))/\Up W w') (hk:xs.length<=1000):
 Calls prog 48 #[.slice A xs.length c] w λe w'=>∃v,e=.returned v/\Own w' w.heap.size 3 v (PH (xt xs xs.length))/\Up w w':=by
 go_enter func48,ntmps48
 go_wp2
 go_loopw [3,9] (λv i wr=>∃j g cp:Nat,j<=xs.length/\i=YM YN j/\v=.slice (YH ⟨g,0,YI⟩) (xt xs j).length cp/\Own wr w.heap.size 3 (.slice (YH ⟨g,0,YI⟩) (xt xs j).length cp) (xt xs j)/\Up w wr) (λ_ i _=>xs.length-(intOf i).toNat)
 case atStart=>exact⟨0,w.heap.size,0,X9,rfl,rfl,Own.empty w _ _ 0 _ (VX _) Yo rfl,by(repeat(first|exact Up.rfl' _|(refine Up.al _ ?_) |(refine Up.dr _ ?_) |(refine Up.uO ?_) |(refine Up.sc ?_ Yh _) |(refine Up.step Yp ?_)))⟩
 case round=>
  obtain⟨i,g3,c3',hi,rfl,rfl,ho,hb⟩:=hrel
  by_cases bU:i<xs.length
  ·obtain⟨x,hx⟩:=zf bU
   obtain⟨b,off,rfl,hbb,c0,c1,c2,c3⟩:=(hr.below hb).ln hx;have hlen:=F1 xs i;have HO:=Lib.hid ho;clear ho
   cases h1:YL (0<j3 xs x.o)with
   |false=>
    have S:=Lib.hid (Zct hx h1);clear hx
    go_wp2_with fail
    generalize GQ:wr.alloc (.cells #[I x.o,I x.k,I x.a,I x.t] 85)=wb;have d0:wb.cell? ⟨wr.heap.size,0,YI⟩=YH (I x.o):=by rw[<-GQ];simp[go_sem]
    have GP:Up wr wb:=by rw[<-GQ];(repeat(first|exact Up.rfl' _|(refine Up.al _ ?_) |(refine Up.dr _ ?_) |(refine Up.uO ?_) |(refine Up.sc ?_ Yh _) |(refine Up.step Yp ?_)))
    clear GQ;refine(hOw wb _ (Up.step GP hb)).mono ?_;rintro e w1 ⟨rfl,pk⟩;replace d0:=BE d0 pk
    go_wp2_with fail
    exact⟨⟨i+1,g3,c3',X9,by go_num,by rw[S.out],by rw[S.out];exact HO.out.up (Up.step pk GP),Up.step pk (Up.step GP hb)⟩,by simp[intOf];omega⟩
   |true=>
    cases h2:B9 (xt xs i) x.o with
    |true=>
     have S:=Lib.hid (Vv hx h2);clear hx
     go_wp2_with fail
     generalize GQ:wr.alloc (.cells #[I x.o,I x.k,I x.a,I x.t] 85)=wb;have d0:wb.cell? ⟨wr.heap.size,0,YI⟩=YH (I x.o):=by rw[<-GQ];simp[go_sem]
     have GP:Up wr wb:=by rw[<-GQ];(repeat(first|exact Up.rfl' _|(refine Up.al _ ?_) |(refine Up.dr _ ?_) |(refine Up.uO ?_) |(refine Up.sc ?_ Yh _) |(refine Up.step Yp ?_)))
     clear GQ;refine(hOw wb _ (Up.step GP hb)).mono ?_;rintro e w1 ⟨rfl,pk⟩;replace d0:=BE d0 pk
     go_wp2_with fail
     refine(ZdM _ _ _ _ (xt xs i) _ (Up.step pk (Up.step GP hb)) X9 (HO.out.up (Up.step pk GP))).mono ?_;rintro e w2 ⟨rfl,uI⟩;replace d0:=BE d0 uI;rw[h2]
     go_wp2
     exact⟨⟨i+1,g3,c3',X9,by go_num,by rw[S.out],by rw[S.out];exact HO.out.up (Up.step uI (Up.step pk GP)),Up.step uI (Up.step pk (Up.step GP hb))⟩,by simp[intOf];omega⟩
    |false=>
     have S:=Lib.hid (Vw hx h1 h2);clear hx
     go_wp2_with fail
     generalize GQ:wr.alloc (.cells #[I x.o,I x.k,I x.a,I x.t] 85)=wb;have d0:wb.cell? ⟨wr.heap.size,0,YI⟩=YH (I x.o):=by rw[<-GQ];simp[go_sem]
     have GP:Up wr wb:=by rw[<-GQ];(repeat(first|exact Up.rfl' _|(refine Up.al _ ?_) |(refine Up.dr _ ?_) |(refine Up.uO ?_) |(refine Up.sc ?_ Yh _) |(refine Up.step Yp ?_)))
     clear GQ;refine(hOw wb _ (Up.step GP hb)).mono ?_;rintro e w1 ⟨rfl,pk⟩;replace d0:=BE d0 pk
     go_wp2_with fail
     refine(ZdM _ _ _ _ (xt xs i) _ (Up.step pk (Up.step GP hb)) X9 (HO.out.up (Up.step pk GP))).mono ?_;rintro e w2 ⟨rfl,uI⟩;replace d0:=BE d0 uI;rw[h2]
     go_wp2_with (at_builtin;go_must (refine iV Mq rfl (.tmp 25) (.tmp 28) rfl (base:=w.heap.size) (ys:=xt xs i) (xs:=[x.o]) Yx (HO.out.up Ya) 1 Yx rfl (Rd.IV _ _ x.o _ Ye) Yi Yr (Up.le Ya) ?_);intro v' w3 GO hg3 _ hu3;have hb3:Up w w3:=hu3 w (VX _) Ya;have HO3:=Lib.hid GO;clear GO)
     have GO:=HO3.out;rw[<-S.out]at GO
     obtain⟨g4,c4,RF,_⟩:=World.ownsRow.form GO (by rw[S.out];simp)
     exact⟨⟨i+1,g4,c4,X9,by go_num,RF,by rw[<-RF];exact GO,hb3⟩,by simp[intOf];omega⟩
  ·obtain rfl:i=xs.length:=X9
   have hlen:=F1 xs xs.length
   go_wp2_with fail
   refine(LR g3 c3' _ _ (xt xs xs.length) _ ho rfl X9).mono ?_;rintro e w1 ⟨rfl,Dz,hg1⟩;have Ej:Up w w1:=Below.grown hb hg1 hb.size (λk e=>by cases e;exact(World.ownsRow.lt ho g3 rfl).1)
   go_wp2_with fail
   go_ret
   exact⟨_,rfl,by simpa[A7]using Dz,Ej⟩
theorem Sn{B:Nat}{T:TypeId}{v:Value}{xs:List Int}(h:Own w B T v xs):fg w (SW w) (.sl (xs.map aE)) v:=by
 rcases h.2 with⟨rfl,h0⟩ |⟨g,cap,cur,rfl,hB,hg,va,Ef,sL,ht⟩
 ·have:xs=[]:=List.length_eq_zero_iff.1 h0
  subst this;exact .nil _ _
 ·exact Gn (c:=aE) (id:Int->Int) (by rw[List.map_id];exact h.rd) va Ef
theorem Ra(xs:List Int)(o:Int):(xs.any λy=>YL (y=o))=B9 xs o:=by
 unfold B9
 congr 1
theorem ZeT{w W:World}(hu:Up w W):Dp (λ_=>False) w W:=⟨hu.os,hu.tape,hu.output,hu.size,λb hb _=>hu.block b hb⟩
theorem OW{O:Nat->Prop}(ht:Dn w O)(hl:l.length<=200){A:Option Addr}{c:Nat}(hv:fg w (SW w) (.sl (l.map bC)) (.slice A l.length c))(hr:Rd w w.heap.size A (l.map bO)):
 Calls prog 48 #[.slice A l.length c] w λe w'=>∃v,e=.returned v/\Own w' w.heap.size 3 v (PH (xt (l.map bO) l.length))/\Up w w':=by
 have hL:(l.map bO).length=l.length:=List.length_map _;have h:=OX A (l.map bO) c w hr X9 (λW o hu=>?_) (λW g cp B ys o hu hy ho=>?_) X9
 ·rw[hL]at h;exact h
 ·rw[hL]
  have hC:=CT.ok (P:=prog) (F4 (l:=l) X9 o);simp only[CT.f,CT.args,CT.m0,CT.res,CT.mem]at hC
  refine fL.ZaO hC (Da ht (ZeT hu) λb _ h=>h.elim) rfl λi p hp=>?_
  match i with
  |0=>obtain rfl:_=p:=VW hp
      exact⟨_,rfl,.c (ux hv hu)⟩
  |1=>obtain rfl:_=p:=VW hp
      exact⟨_,rfl,CO _ rfl⟩
  |i+2=>grind
 ·have hC:=CT.ok (P:=prog) (show pA ys o=YH (B9 ys o)by rw[Ed,ye hy,Ra])
  simp only[CT.f,CT.args,CT.m0,CT.res,CT.mem]at hC
  refine fL.ZaO hC (Da ht (ZeT hu) λb _ h=>h.elim) rfl λi p hp=>?_
  match i with
  |0=>obtain rfl:_=p:=VW hp
      exact⟨_,rfl,.c (Sn ho)⟩
  |1=>obtain rfl:_=p:=VW hp
      exact⟨_,rfl,CO _ rfl⟩
  |i+2=>grind
def jo(l:List aU):Option (List Int):=if l.length<=200 then YH (PH (xt (l.map bO) l.length))else YI
theorem xb(l:List aU){r:List Int}(H:jo l=YH r):fL prog 48 [.sl (l.map bC)] [] (.ms 0) [YH ⟨.of 3,1,r.map aE⟩]:=by
 unfold jo at H
 split at H
 case isFalse=>cases H
 rename_i MA;obtain rfl:=VW H;intro S β w vs ω hk hl ha;obtain⟨x,hx0,hr⟩:=ha 0 _ rfl;have hv:vs=#[x]:=by
  grind
 subst hv;have hr0:fg w S (.sl (l.map bC)) x:=by cases hr with|c h=>exact h
 obtain⟨A,c,rfl,ZbZ,_,PW⟩:=M5 bO hk.sz hr0;refine(OW hk.Nl MA (hr0.ext hk.sz (λb o hb=>rfl)) PW).mono ?_
 rintro e w' ⟨v,rfl,ho,hu⟩;obtain⟨E',h1,h2,h3,h4,h5⟩:=vW (c:=aE) hk ho hu (λx=>⟨rfl,λj p hj=>by
  cases j with
  |zero=>obtain rfl:vi x=p:=by simp_all
         exact⟨_,rfl,rfl,λw E=>.c (.v _ rfl)⟩
  |succ j=>simp_all⟩)
 exact⟨v,E',rfl,h1,h2,h3,h4,h5⟩
instance (l:List aU):CT prog (jo l):=⟨48,[.sl (l.map bC)],[],λr=>.ms 0,λr=>[YH ⟨.of 3,1,r.map aE⟩],xb l⟩
theorem Zcu(hl:l.length<=200):jo l=YH (PH (xt (l.map bO) l.length)):=by
 unfold jo;rw[if_pos hl]
end Go.Proofs.YtdilaemengjipaaGreatDoor
namespace Go.Proofs.YtdilaemengjipaaGreatDoor
set_option maxRecDepth 10000
open Go.RowKit
def j6(o:aL)(y1:List Int)(s0:Int×Int×Int):Option ((Int×Int×Int)⊕((Int×Int)⊕Bool)):=
 cond (YL (s0.2.2<=(o.world.ae.length:Int)))
 ((db o.lines s0.2.2 3).bind λy2=>
 (aB o.aK (aI (s0.2.2-1))).bind λy3=>
 (kr o.aY o.aX y3).bind λy4=>
 cond (!y4.2)
 (YH (.inr (.inr YK)))
 ((db o.lines s0.2.2 1).bind λy5=>
 cond (!decide (y5=y4.1))
 (YH (.inr (.inr YK)))
 (cond (YL (y4.1<y2))
 (YH (.inr (.inr YK)))
 ((gL o.lines s0.2.2).bind λy6=>
 cond (YL (y6<0))
 (YH (.inr (.inr YK)))
 ((gL o.lines s0.2.2).bind λy7=>
 (sB y1 s0.2.2).bind λy8=>
 cond (!((YL (0<y7))==y8))
 (YH (.inr (.inr YK)))
 ((db o.lines s0.2.2 2).bind λy9=>
 (gL o.lines s0.2.2).bind λdL=>
 YH (.inl ((aI ((aI (s0.1+y9))-y2)),(aI (s0.2.1+dL)),(aI (s0.2.2+1))))))))))
 (YH (.inr (.inl (s0.1,s0.2.1))))
instance (o:aL)(y1:List Int):bo (j6 o y1):=⟨λs0=>(.un::.be 0 0 0::.un::vi s0.1::vi s0.2.1::.ms 1::vi s0.2.2::(U 96 [])),λs0=>[YH ⟨.of 40,16,[[.sl (o.world.aa.aA.map bn),.sl (o.world.aa.off.map aE),vi o.world.aa.change,.sl (o.world.ae.map ba),.sl (o.world.ar.map aC),.sl (o.world.ah.map aW),vi o.world.now,.sl (o.world.aH.map bt),.sl (o.world.skip.map aE),vi o.world.bd,.sl (o.aY.map cG),.sl (o.aX.map cI),.sl (o.aM.map aE),.sl (o.aK.map bJ),.sl (o.lines.map bC),.sl (o.aF.map gF)]]⟩,YH ⟨.of 3,1,y1.map aE⟩]⟩
def pB(o:aL):Option Bool:=
 (jo o.lines).bind λy1=>
 (aD (j6 o y1) NN (0,0,1)).bind (bk (λo0=>
 (l8 o.lines).bind λji=>
 cond (YL (o0.1=ji))
 (cond (YL (0<=o0.1))
 (YH ((YL (o0.2=0))==(YL ((y1.length:Int)=0))))
 (YH YK))
 (YH YK)) (λr=>YH r))
instance (o:aL):CT prog (pB o):=⟨12,[.ag (lx o)],[],λr=>vb r,λr=>[],cw (pB.eq_1 ..) func12 ntmps12 results12⟩
end Go.Proofs.YtdilaemengjipaaGreatDoor
