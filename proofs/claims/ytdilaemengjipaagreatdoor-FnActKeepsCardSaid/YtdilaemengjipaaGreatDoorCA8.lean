/- A part of the proof of the statement in the last file of this claim: texts on the language of the program and on its functions. No condition. -/
import Derived.Test.YtdilaemengjipaaGreatDoorCA4
import Derived.Test.YtdilaemengjipaaGreatDoorCA1
set_option linter.unusedVariables false
set_option linter.unusedSimpArgs false
set_option linter.unusedSectionVars false
open Go.Value renaming int->YM
open Go.IntKind renaming i64->YN
open Go renaming undef->YO
open Option renaming some->YH,none->YI
open Bool renaming true->YJ,false->YK
open Decidable renaming decide->YL
open Go.Proofs.Tryz
set_option maxHeartbeats 40000000
open List renaming foldl_cons->Wn,length_cons->VZ
open Nat renaming le_refl->VX,le_trans->Wq
open Option.some renaming inj->VW
open Bool renaming and_eq_true->V6
namespace Go.Proofs.YtdilaemengjipaaGreatDoor
set_option maxRecDepth 10000
open Go.RowKit Go.Maps Go.WideMaps Go.Sort
variable {i:Nat}{x:bK}
instance :eQ bK where
 cells x:=[.string x.au,.string x.a8,I x.start,I x.mP,I x.uK,I x.iU]
 k:=6
 len _:=rfl
 pos:=by decide
 one:=by simp[Value.oneCell',I]
theorem Rd.bD{w:World}{B:Nat}{A:Option Addr}{xs:List bK}(h:Rd w B A xs)(hx:xs[i]?=YH x):
 ∃b off,A=YH ⟨b,off,YI⟩/\b<B/\w.cell? ⟨b,off+i*6,YI⟩=YH (.string x.au)/\w.cell? ⟨b,off+i*6+1,YI⟩=YH (.string x.a8)/\w.cell? ⟨b,off+i*6+2,YI⟩=YH (I x.start)/\w.cell? ⟨b,off+i*6+3,YI⟩=YH (I x.mP)/\w.cell? ⟨b,off+i*6+4,YI⟩=YH (I x.uK)/\w.cell? ⟨b,off+i*6+5,YI⟩=YH (I x.iU):=by
 obtain⟨b,off,e,hb,hc⟩:=h.aP hx;exact⟨b,off,e,hb,hc 0 _ rfl,hc 1 _ rfl,hc 2 _ rfl,hc 3 _ rfl,hc 4 _ rfl,hc 5 _ rfl⟩
theorem RM:(prog.info? 9).map (λi=>(i.zero,i.size,i.bytes))=YH (YH (Value.string ⟨#[]⟩),1,16):=by kernel_rfl
theorem Fx:P3 prog 114 9 (eQ.k ByteArray) 16:=P3.mk' Tryz.underlying114 RM rfl
theorem qi(w:World):(zeroValue 4).run prog w=.ok (.bool YK) w:=by kernel_rfl
def tg(aA:List bK)(i:Nat):List ByteArray:=(aA.take i).foldl (λout l=>dd (dd out l.au) l.a8) []
theorem Sj{aA:List bK}(hx:aA[i]?=YH x):tg aA (i+1)=dd (dd (tg aA i) x.au) x.a8:=by
 unfold tg;rw[ui hx]
theorem QR(out:List ByteArray)(s:ByteArray):(dd out s).length<=out.length+1:=by unfold dd;split<;>simp
theorem MR(aA:List bK)(i:Nat):(tg aA i).length<=2*i:=by
 have h:∀(b:List bK) (out:List ByteArray),(b.foldl (λout l=>dd (dd out l.au) l.a8) out).length<=out.length+2*b.length:=by
  intro b
  induction b with
  |nil=>intro out;simp
  |cons x b ih=>
   intro out;have h1:=ih (dd (dd out x.au) x.a8);have h2:=QR (dd out x.au) x.a8;have h3:=QR out x.au;simp only[Wn,VZ];omega
 have h1:=h (aA.take i) [];have h2:(aA.take i).length<=i:=List.length_take_le _ _;simp only[List.length_nil]at h1
 unfold tg;omega
theorem JB(g cp n B:Nat)(zs:List ByteArray)(w:World)(ho:Own w B 9 (.slice (YH ⟨g,0,YI⟩) n cp) zs)(hl:n=zs.length)(hn:n<=4194304):
 Calls prog 156 #[.slice (YH ⟨g,0,YI⟩) n cp] w λe w'=>e=.returned (.tuple #[])/\Own w' B 9 (.slice (YH ⟨g,0,YI⟩) n cp) (C0 zs)/\w.grownBy w' (YH g):=by
 subst hl
 rcases ho.2 with⟨h0,_⟩ |⟨g',Zbr,cur,hv,hB,hg,va,Ef,sL,ht⟩
 ·cases h0
 ·obtain⟨rfl,rfl⟩:g=g'/\cp=Zbr:=by simpa using hv
  have hss:(zs.map λb:ByteArray=>b.data.toList).length=zs.length:=by simp
  have Ei:cur.toList.take (zs.map λb:ByteArray=>b.data.toList).length=(zs.map λb:ByteArray=>b.data.toList).map encStr:=by
   have:=ht;rw[show eQ.k ByteArray=1 from rfl,Nat.mul_one,D7]at this
   rw[hss,this,List.map_map];apply List.map_congr_left;intro b _;rfl
  have hH:=holds_of_block hg Ei;have key:=Tryz.sort_Strings g 0 cp _ w hH (Array.getElem?_eq_some_iff.1 hg).1 (by rw[hss];omega)
  rw[hss]at key
  refine key.mono ?_;rintro e w' ⟨rfl,m,os,rfl⟩;have hs:=ownsRow_sorted (n:=m) (os:=os) (ss:=zs.map λb:ByteArray=>b.data.toList) (ts:=(zs.map λb:ByteArray=>b.data.toList).mergeSort λx y=>YL (x<=y)) Ye hB hg (by simpa using va) Ef sL
  refine⟨rfl,?_,grownBy_sorted _⟩;unfold Own;rw[JF,D7];rw[hss]at hs
  have e2:(C0 zs).map Value.string=((zs.map λb:ByteArray=>b.data.toList).mergeSort λx y=>YL (x<=y)).map encStr:=by
   unfold C0;rw[List.map_map];rfl
  rw[e2];exact hs
set_option maxRecDepth 100000 in
theorem Je(A:Option Addr)(aA:List bK)(n c:Nat)(v2 v3:Value)(w:World)(hr:Rd w w.heap.size A aA)(hl:n=aA.length)(hc:aA.length<=c)(hn:n<=1048576)(hs:∀l∈aA,l.au.size<=maxLen/\l.a8.size<=maxLen):
 Calls prog 89 #[.agg #[.slice A n c,v2,v3]] w λe w'=>∃v,e=.returned v/\Own w' w.heap.size 9 v (C0 (tg aA aA.length))/\Up w w':=by
 subst hl;have hmm:=@run_makeMap prog
 go_enter func89,ntmps89
 go_wp2
 go_loopw [4,14] (λv i wr=>∃j g cp:Nat,j<=aA.length/\i=YM YN j/\v=.slice (YH ⟨g,0,YI⟩) (tg aA j).length cp/\Own wr (w.heap.size+2) 9 (.slice (YH ⟨g,0,YI⟩) (tg aA j).length cp) (tg aA j)/\sN prog 9 4 wr (w.heap.size+1) (2*j) (tg aA j)/\Up w wr) (λ_ i _=>aA.length-(intOf i).toNat)
 case atStart=>exact⟨0,w.heap.size+1+1,0,X9,rfl,rfl,by have h_:=Own.empty (α:=ByteArray) ((w.alloc (.cells #[.slice A aA.length c,v2,v3] 27)).alloc (.map #[] 0)) (w.heap.size+2) 9 0 #[] Ye Yo rfl;simpa[tg]using h_,by have h_:=(sN.bd (P:=prog) (k:=9) (e:=4) (w.alloc (.cells #[.slice A aA.length c,v2,v3] 27))).alloc (.cells #[] 9);simpa[tg]using h_,by(repeat(first|exact Up.rfl' _|(refine Up.al _ ?_) |(refine Up.dr _ ?_) |(refine Up.uO ?_) |(refine Up.sc ?_ Yh _) |(refine Up.step Yp ?_)))⟩
 case round=>
  obtain⟨i,g3,c3',hi,rfl,rfl,ho,zk,hb⟩:=hrel
  by_cases bU:i<aA.length
  ·obtain⟨x,hx⟩:=zf bU
   obtain⟨b,off,rfl,hbb,c0,c1,c2,c3,c4,c5⟩:=(hr.below hb).bD hx;have hlen:=MR aA i;obtain⟨Dl,Ay⟩:=hs x (List.mem_of_getElem? hx);have uQ:=World.ownsRow.lt ho g3 rfl;have HO:=Lib.hid ho;have HS:=Lib.hid zk;clear ho zk
   go_wp2_with fail
   generalize GQ:(wr.alloc _).alloc _=wb;have d0:wb.cell? ⟨wr.heap.size+1,0,YI⟩=YH (.string x.au):=by rw[<-GQ];simp[go_sem]
   have d1:wb.cell? ⟨wr.heap.size+1,1,YI⟩=YH (.string x.a8):=by rw[<-GQ];simp[go_sem]
   have GP:Up wr wb:=by rw[<-GQ];(repeat(first|exact Up.rfl' _|(refine Up.al _ ?_) |(refine Up.dr _ ?_) |(refine Up.uO ?_) |(refine Up.sc ?_ Yh _) |(refine Up.step Yp ?_)))
   have wu:wr.heap.size+2<=wb.heap.size:=by rw[<-GQ];simp
   have AK:Hid (sN prog 9 4 wb (w.heap.size+1) (2*i) (tg aA i)):=Lib.hid (by rw[<-GQ];exact(HS.out.alloc _).alloc _)
   have HO0:=Lib.hid (HO.out.up GP);have Ob:Up w wb:=Up.step GP hb;clear GQ c0 c1 c2 c3 c4 c5 HS HO;have hw0:=hb.size;have UU:=Sj hx;have Kz:=Ob
   cases h1:PX (tg aA i) x.au with
   |false=>
    cases h2:PX (tg aA i++[x.au]) x.a8 with
    |false=>
     refine wp_loop_rounds 3 ?_
     iterate 3 (rw[rounds_succ];go_wp2_with (first|(at_builtin;(have FK:=HP2.out);go_loud (refine iV Fx rfl (.tmp 34) (.tmp 36) rfl (base:=w.heap.size+2) (ys:=(tg aA i++[x.au])) (xs:=[x.a8]) Yx (FK.up Ya) 1 Yx rfl (Rd.IV _ _ (x.a8) _ Ye) Yi Yr Yi ?_);intro v2 w2 zX sw _ hu_;go_loud (have JX:=Lib.hid ((HT2.out.alloc _).kept sw Yq);have GN:Up w w2:=Below.grown (Up.al _ PT) sw Yi (λk e=>by have h_:=World.ownsRow.lt FK _ e;omega);have Zgh:w2a.heap.size+1<=w2.heap.size:=Yu;have HO2:=Lib.hid zX);clear zX FK sw hu_ HT2 HP2) |(at_mapUpdate;(have h_:=Tw.out);go_loud (refine oa _ rfl _ _ _ 213 rfl 9 4 Tryz.underlying9 Tryz.underlying213 Tryz.underlying4 (w.heap.size+1) (2*i+1) (tg aA i++[x.au]) rfl Tw.out Yo _ rfl rfl Ay ?_);intro w2a RE sw;go_loud (have HT2:=Lib.hid RE;clear RE;have HP2:=Lib.hid (HO1.out.grown sw (.inr (by intro hh;have h_:=World.ownsRow.lt HO1.out _ hh;omega)));have PT:Up w w2a:=Below.grown Ax sw Ax.size (λk e=>by cases e;omega);have Oq:=sw.size;have hp2:=Wq Ax.size sw.size);clear sw) |(at_lookup;have h_:=Tw.out;(refine fW _ rfl _ _ 213 rfl 9 4 Tryz.underlying9 Tryz.underlying213 Tryz.underlying4 qi (w.heap.size+1) (2*i+1) (tg aA i++[x.au]) rfl Tw.out _ rfl Ay _ h2 ?_)) |(at_builtin;(have FK:=HP1.out);go_loud (refine iV Fx rfl (.tmp 34) (.tmp 36) rfl (base:=w.heap.size+2) (ys:=(tg aA i)) (xs:=[x.au]) Yx (FK.up Ya) 1 Yx rfl (Rd.IV _ _ (x.au) _ Ye) Yi Yr Yi ?_);intro v1 w1 Dz sw _ hu_;go_loud (have Tw:=Lib.hid ((HT1.out.alloc _).kept sw Yq);have Ax:Up w w1:=Below.grown (Up.al _ Oe) sw Yi (λk e=>by have h_:=World.ownsRow.lt FK _ e;omega);have d2:=(um sw Yi YA).trans (Mc dz1);have Zgg:w1a.heap.size+1<=w1.heap.size:=Yu;have HO1:=Lib.hid Dz);clear Dz FK sw hu_ HT1 HP1) |(at_mapUpdate;(have h_:=AK.out);go_loud (refine oa _ rfl _ _ _ 213 rfl 9 4 Tryz.underlying9 Tryz.underlying213 Tryz.underlying4 (w.heap.size+1) (2*i) (tg aA i) rfl AK.out Yo _ rfl rfl Dl ?_);intro w1a RE sw;go_loud (have HT1:=Lib.hid RE;clear RE;have HP1:=Lib.hid (HO0.out.grown sw (.inr Ys));have Oe:Up w w1a:=Below.grown Kz sw Kz.size (λk e=>by cases e;omega);have J1:=sw.size;have dz1:=(um sw X9 (by intro hh;injection hh with hh;omega)).trans d1;have UQ:=Wq Kz.size sw.size);clear sw) |(at_lookup;have h_:=AK.out;(refine fW _ rfl _ _ 213 rfl 9 4 Tryz.underlying9 Tryz.underlying213 Tryz.underlying4 qi (w.heap.size+1) (2*i) (tg aA i) rfl AK.out _ rfl Dl _ h1 ?_))))
     have rV:tg aA (i+1)=(tg aA i++[x.au]++[x.a8]):=by rw[UU];simp[dd,h1,h2]
     have hoF:=HO2.out;obtain⟨g4,c4,RF,_⟩:=World.ownsRow.form hoF Ye;exact⟨⟨i+1,g4,c4,X9,by go_num,by rw[rV];exact RF,by rw[rV,<-RF];exact hoF,by rw[rV];exact JX.out.mono X9,GN⟩,by simp[intOf];omega⟩
    |true=>
     refine wp_loop_rounds 3 ?_
     iterate 3 (rw[rounds_succ];go_wp2_with (first|(at_lookup;have h_:=Tw.out;(refine fW _ rfl _ _ 213 rfl 9 4 Tryz.underlying9 Tryz.underlying213 Tryz.underlying4 qi (w.heap.size+1) (2*i+1) (tg aA i++[x.au]) rfl Tw.out _ rfl Ay _ h2 ?_)) |(at_builtin;(have FK:=HP1.out);go_loud (refine iV Fx rfl (.tmp 34) (.tmp 36) rfl (base:=w.heap.size+2) (ys:=(tg aA i)) (xs:=[x.au]) Yx (FK.up Ya) 1 Yx rfl (Rd.IV _ _ (x.au) _ Ye) Yi Yr Yi ?_);intro v1 w1 Dz sw _ hu_;go_loud (have Tw:=Lib.hid ((HT1.out.alloc _).kept sw Yq);have Ax:Up w w1:=Below.grown (Up.al _ Oe) sw Yi (λk e=>by have h_:=World.ownsRow.lt FK _ e;omega);have d2:=(um sw Yi YA).trans (Mc dz1);have Zgg:w1a.heap.size+1<=w1.heap.size:=Yu;have HO1:=Lib.hid Dz);clear Dz FK sw hu_ HT1 HP1) |(at_mapUpdate;(have h_:=AK.out);go_loud (refine oa _ rfl _ _ _ 213 rfl 9 4 Tryz.underlying9 Tryz.underlying213 Tryz.underlying4 (w.heap.size+1) (2*i) (tg aA i) rfl AK.out Yo _ rfl rfl Dl ?_);intro w1a RE sw;go_loud (have HT1:=Lib.hid RE;clear RE;have HP1:=Lib.hid (HO0.out.grown sw (.inr Ys));have Oe:Up w w1a:=Below.grown Kz sw Kz.size (λk e=>by cases e;omega);have J1:=sw.size;have dz1:=(um sw X9 (by intro hh;injection hh with hh;omega)).trans d1;have UQ:=Wq Kz.size sw.size);clear sw) |(at_lookup;have h_:=AK.out;(refine fW _ rfl _ _ 213 rfl 9 4 Tryz.underlying9 Tryz.underlying213 Tryz.underlying4 qi (w.heap.size+1) (2*i) (tg aA i) rfl AK.out _ rfl Dl _ h1 ?_))))
     have rV:tg aA (i+1)=(tg aA i++[x.au]):=by rw[UU];simp[dd,h1,h2]
     have hoF:=HO1.out;obtain⟨g4,c4,RF,_⟩:=World.ownsRow.form hoF Ye;exact⟨⟨i+1,g4,c4,X9,by go_num,by rw[rV];exact RF,by rw[rV,<-RF];exact hoF,by rw[rV];exact Tw.out.mono X9,Ax⟩,by simp[intOf];omega⟩
   |true=>
    cases h2:PX (tg aA i) x.a8 with
    |false=>
     refine wp_loop_rounds 3 ?_
     iterate 3 (rw[rounds_succ];go_wp2_with (first|(at_lookup;have h_:=AK.out;(refine fW _ rfl _ _ 213 rfl 9 4 Tryz.underlying9 Tryz.underlying213 Tryz.underlying4 qi (w.heap.size+1) (2*i) (tg aA i) rfl AK.out _ rfl Dl _ h1 ?_)) |(at_lookup;have h_:=AK.out;(refine fW _ rfl _ _ 213 rfl 9 4 Tryz.underlying9 Tryz.underlying213 Tryz.underlying4 qi (w.heap.size+1) (2*i) (tg aA i) rfl AK.out _ rfl Ay _ h2 ?_)) |(at_mapUpdate;(have h_:=AK.out);go_loud (refine oa _ rfl _ _ _ 213 rfl 9 4 Tryz.underlying9 Tryz.underlying213 Tryz.underlying4 (w.heap.size+1) (2*i) (tg aA i) rfl AK.out Yo _ rfl rfl Ay ?_);intro w2a RE sw;go_loud (have HT2:=Lib.hid RE;clear RE;have HP2:=Lib.hid (HO0.out.grown sw (.inr Ys));have PT:Up w w2a:=Below.grown Kz sw Kz.size (λk e=>by cases e;omega);have Oq:=sw.size;have hp2:=Wq Kz.size sw.size);clear sw) |(at_builtin;(have FK:=HP2.out);go_loud (refine iV Fx rfl (.tmp 34) (.tmp 36) rfl (base:=w.heap.size+2) (ys:=(tg aA i)) (xs:=[x.a8]) Yx (FK.up Ya) 1 Yx rfl (Rd.IV _ _ (x.a8) _ Ye) Yi Yr Yi ?_);intro v2 w2 zX sw _ hu_;go_loud (have JX:=Lib.hid ((HT2.out.alloc _).kept sw Yq);have GN:Up w w2:=Below.grown (Up.al _ PT) sw Yi (λk e=>by have h_:=World.ownsRow.lt FK _ e;omega);have Zgh:w2a.heap.size+1<=w2.heap.size:=Yu;have HO2:=Lib.hid zX);clear zX FK sw hu_ HT2 HP2)))
     have rV:tg aA (i+1)=(tg aA i++[x.a8]):=by rw[UU];simp[dd,h1,h2]
     have hoF:=HO2.out;obtain⟨g4,c4,RF,_⟩:=World.ownsRow.form hoF Ye;exact⟨⟨i+1,g4,c4,X9,by go_num,by rw[rV];exact RF,by rw[rV,<-RF];exact hoF,by rw[rV];exact JX.out.mono X9,GN⟩,by simp[intOf];omega⟩
    |true=>
     refine wp_loop_rounds 3 ?_
     iterate 3 (rw[rounds_succ];go_wp2_with (first|(at_lookup;have h_:=AK.out;(refine fW _ rfl _ _ 213 rfl 9 4 Tryz.underlying9 Tryz.underlying213 Tryz.underlying4 qi (w.heap.size+1) (2*i) (tg aA i) rfl AK.out _ rfl Dl _ h1 ?_)) |(at_lookup;have h_:=AK.out;(refine fW _ rfl _ _ 213 rfl 9 4 Tryz.underlying9 Tryz.underlying213 Tryz.underlying4 qi (w.heap.size+1) (2*i) (tg aA i) rfl AK.out _ rfl Ay _ h2 ?_))))
     have rV:tg aA (i+1)=(tg aA i):=by rw[UU];simp[dd,h1,h2]
     exact⟨⟨i+1,g3,c3',X9,by go_num,by rw[rV],by rw[rV];exact HO0.out,by rw[rV];exact AK.out.mono X9,Kz⟩,by simp[intOf];omega⟩
  ·obtain rfl:i=aA.length:=X9
   have hlen:=MR aA aA.length
   go_wp2_with fail
   refine(JB g3 c3' _ _ (tg aA aA.length) _ ho rfl X9).mono ?_;rintro e w1 ⟨rfl,Dz,hg1⟩;have Ej:Up w w1:=Below.grown hb hg1 hb.size (λk e=>by cases e;have h_:=World.ownsRow.lt ho g3 rfl;omega)
   go_wp2_with fail
   go_ret
   exact⟨_,rfl,by simpa[JF]using Dz.more X9,Ej⟩
end Go.Proofs.YtdilaemengjipaaGreatDoor
namespace Go.Proofs.YtdilaemengjipaaGreatDoor
set_option maxRecDepth 10000
open Go.RowKit
variable {i:Nat}
theorem OT(n:aj):tg n.aA n.aA.length=(ir n).foldl dd []:=by
 have h:∀(l:List bK) (acc:List ByteArray),l.foldl (λout l=>dd (dd out l.au) l.a8) acc=(l.flatMap λl=>[l.au,l.a8]).foldl dd acc:=by
  intro l
  induction l with
  |nil=>intro acc;rfl
  |cons x l ih=>intro acc;simp only[Wn,List.flatMap_cons,List.foldl_append,List.foldl_nil,ih]
 unfold tg ir;rw[List.take_length];exact h _ _
def dm(n:aj):Option (List ByteArray):=
 if n.aA.length<=1048576/\(n.aA.all λl=>YL (l.au.size<=maxLen/\l.a8.size<=maxLen))=YJ then YH (C0 ((ir n).foldl dd []))else YI
theorem zv(n:aj){r:(List ByteArray)}(H:dm n=YH r):fL prog 89 [.ag (bA n)] [] (.ms 0) [YH ⟨.of 9,1,r.map jK⟩]:=by
 unfold dm at H
 split at H
 case isFalse=>cases H
 rename_i hok;obtain⟨hn,hs⟩:=hok;obtain rfl:=VW H;have US:∀l∈n.aA,l.au.size<=maxLen/\l.a8.size<=maxLen:=λl hl=>X3 (List.all_eq_true.1 hs l hl)
 intro S β w vs ω hk hl ha;obtain⟨x,hx0,hr⟩:=ha 0 _ rfl;have hv:vs=#[x]:=by
  have h1:vs.size=1:=hl;apply Array.ext (by simp[h1])
  intro i h2 h3;have:i=0:=X9;subst this;have:=(Array.getElem?_eq_some_iff.1 hx0).2
  simpa using this
 subst hv;obtain⟨us,rfl,hul,Ej,hur⟩:=hr.qq;have Zb8:us.size=3:=hul;have h0:us[0]?=YH us[0]:=Array.getElem?_eq_getElem X9;have hus:us=#[us[0],us[1],us[2]]:=by
  apply Array.ext (by simp[Zb8])
  intro i h2 h3
  match i,h2 with
  |0,_=>rfl
  |1,_=>rfl
  |2,_=>rfl
  |i+3,h2=>omega
 have hr0:=hur 0 (.sl (n.aA.map bn)) _ rfl h0;have zl:∃A c,us[0]=.slice A n.aA.length c/\n.aA.length<=c/\Rd w w.heap.size A n.aA:=by
  cases hr0 with
  |c h=>
   generalize hq:PV.sl (n.aA.map bn)=q at h
   generalize us[0]=y at h
   cases h with
   |v x h=>cases hq
   |ud=>cases hq
   |un=>cases hq
   |rp=>cases hq
   |fn=>cases hq
   |nil A c=>
    have:n.aA=[]:=by simpa using hq
    exact⟨A,c,by rw[this];rfl,by rw[this];simp,by rw[this];exact Rd.Vs⟩
   |sl es b off k c u hS hkp va hm xT AS h1 hrr=>
    obtain rfl:n.aA.map bn=es:=by simpa using hq
    refine⟨_,c,by simp,by simpa using va,λiq=>⟨b,off,rfl,hk.sz b hS,λj u' It=>?_⟩⟩
    have gH:0<n.aA.length:=List.length_pos_iff.2 iq;have hk6:k=6:=(xT 0 (bn n.aA[0]) (by simp[gH])).symm
    subst hk6;have hj:=(List.getElem?_eq_some_iff.1 It).1;rw[rz]at hj
    have hj6:j<n.aA.length*6:=hj;have hi:j / 6<n.aA.length:=X9;have hy:n.aA[j / 6]?=YH n.aA[j / 6]:=List.getElem?_eq_getElem hi;have hjj:j=(j / 6)*6+j % 6:=X9;have hm6:j % 6<6:=Nat.mod_lt _ (by decide)
    have hp:∃p u'',(bn n.aA[j / 6])[j % 6]?=YH p/\(eQ.cells n.aA[j / 6])[j % 6]?=YH u''/\∀z,fg w S p z->z=u'':=by
     generalize n.aA[j / 6]=y;generalize j % 6=m at hm6
     match m,hm6 with
     |0,_=>exact⟨_,_,rfl,rfl,λz hz=>by cases hz;rfl⟩
     |1,_=>exact⟨_,_,rfl,rfl,λz hz=>by cases hz;rfl⟩
     |2,_=>exact⟨_,_,rfl,rfl,λz hz=>by cases hz;rfl⟩
     |3,_=>exact⟨_,_,rfl,rfl,λz hz=>by cases hz;rfl⟩
     |4,_=>exact⟨_,_,rfl,rfl,λz hz=>by cases hz;rfl⟩
     |5,_=>exact⟨_,_,rfl,rfl,λz hz=>by cases hz;rfl⟩
    obtain⟨p,u'',UQ,hp2,hp3⟩:=hp;have hf:=ug hy hp2;rw[show eQ.k bK=6 from rfl,<-hjj]at hf
    obtain rfl:u''=u':=VW (hf.symm.trans It);have e1:(n.aA.map bn)[j / 6]?=YH (bn n.aA[j / 6]):=by simp[hi]
    have hc:=AS (j / 6) _ (j % 6) p e1 UQ;have hz:=hp3 _ (hrr (j / 6) _ (j % 6) p e1 UQ);rw[hz]at hc
    rw[show off+j=off+j / 6*6+j % 6 by omega]
    exact hc
 obtain⟨A,c,hA,ZbZ,PW⟩:=zl;rw[hus,hA];refine(Je A n.aA _ c _ _ w PW rfl ZbZ hn US).mono ?_;rintro e w' ⟨v,rfl,ho,hu⟩;rw[OT]at ho
 obtain⟨E',h1,h2,h3,h4,h5⟩:=vW (c:=jK) hk ho hu (λx=>⟨rfl,λj p hj=>by
  cases j with
  |zero=>obtain rfl:vs x=p:=by simpa using hj
         exact⟨_,rfl,rfl,λw E=>.c (.v _ rfl)⟩
  |succ j=>simp[jK]at hj⟩)
 exact⟨v,E',rfl,h1,h2,h3,h4,h5⟩
instance (n:aj):CT prog (dm n):=⟨89,[.ag (bA n)],[],λr=>.ms 0,λr=>[YH ⟨.of 9,1,r.map jK⟩],zv n⟩
def rC(l:List Int)(s0:Int):Option (Int⊕(Unit⊕Bool)):=
 cond (YL (s0<(l.length:Int)))
 ((aB l s0).bind λy1=>
 (aZ y1 1 2000).bind λy2=>
 cond (!y2)
 (YH (.inr (.inr YK)))
 (YH (.inl (aI (s0+1)))))
 (YH (.inr (.inl ())))
instance (l:List Int):bo (rC l):=⟨λs0=>(.sl (l.map aE)::(U 4 (.sl (l.map aE)::vi (l.length:Int)::vi s0::(U 10 [])))),λs0=>[]⟩
def jq(l:List Int):Option Bool:=
 (aD (rC l) NN 0).bind (bk (λo0=>
 YH (YL ((l.length:Int)=3))) (λr=>YH r))
instance (l:List Int):CT prog (jq l):=⟨135,[.sl (l.map aE)],[],λr=>vb r,λr=>[],cw (jq.eq_1 ..) func135 ntmps135 results135⟩
def oi(bH:List Int):Option Int:=
 (jq bH).bind λy1=>
 cond (!y1)
 (YH 0)
 ((mB bH).bind λy2=>
 (aB y2 0).bind λy3=>
 (aB y2 1).bind λy4=>
 (aB y2 2).bind λy5=>
 YH (aI ((aI (y3+(aI (2*y4))))+(aI (2*y5)))))
instance (bH:List Int):CT prog (oi bH):=⟨136,[.sl (bH.map aE)],[],λr=>vi r,λr=>[],cw (oi.eq_1 ..) func136 ntmps136 results136⟩
def gJ(l:cq):Option Bool:=
 (aZ l.ay 1 3).bind λy1=>
 cond y1
 ((aZ l.da 0 999999999).bind λy2=>
 cond y2
 ((dM l.a8).bind λy3=>
 YH y3)
 (YH YK))
 (YH YK)
instance (l:cq):CT prog (gJ l):=⟨134,[.ag (rH l)],[],λr=>vb r,λr=>[],cw (gJ.eq_1 ..) func134 ntmps134 results134⟩
def gb(p:aT):Option Bool:=
 (gJ p.label).bind λy1=>
 cond y1
 ((dM p.au).bind λy2=>
 cond y2
 (cond (!decide (p.au=p.label.a8))
 ((aZ p.ab 1 30000).bind λy3=>
 cond y3
 ((jq p.bH).bind λy4=>
 cond y4
 ((oi p.bH).bind λy5=>
 cond (YL (y5<=3600))
 ((aZ p.value 0 500000).bind λy6=>
 YH y6)
 (YH YK))
 (YH YK))
 (YH YK))
 (YH YK))
 (YH YK))
 (YH YK)
instance (p:aT):CT prog (gb p):=⟨71,[.ag (bJ p)],[],λr=>vb r,λr=>[],cw (gb.eq_1 ..) func71 ntmps71 results71⟩
def gZ(a:List Int)(b:List Int)(s0:Int):Option (Int⊕(Unit⊕Bool)):=
 cond (YL (s0<(a.length:Int)))
 ((aB a s0).bind λy1=>
 (aB b s0).bind λy2=>
 cond (!decide (y1=y2))
 (YH (.inr (.inr YK)))
 (YH (.inl (aI (s0+1)))))
 (YH (.inr (.inl ())))
instance (a:List Int)(b:List Int):bo (gZ a b):=⟨λs0=>(.sl (a.map aE)::.sl (b.map aE)::(U 10 (vi (a.length:Int)::vi s0::(U 12 [])))),λs0=>[]⟩
def eY(a:List Int)(b:List Int):Option Bool:=
 cond (!decide ((a.length:Int)=(b.length:Int)))
 (YH YK)
 ((aD (gZ a b) NN 0).bind (bk (λo0=>
 YH YJ) (λr=>YH r)))
instance (a:List Int)(b:List Int):CT prog (eY a b):=⟨34,[.sl (a.map aE),.sl (b.map aE)],[],λr=>vb r,λr=>[],λH=>by replace H:=H0 H;unfold eY at H;exact ja func34 rfl ntmps34 results34 λQ hQ Ia=>JU⟩
def iI(a:aT)(b:aT):Option Bool:=
 cond (YL (a.label=b.label))
 (cond (YL (a.au=b.au))
 (cond (YL (a.ab=b.ab))
 ((eY a.bH b.bH).bind λy1=>
 cond y1
 (YH (YL (a.value=b.value)))
 (YH YK))
 (YH YK))
 (YH YK))
 (YH YK)
instance (a:aT)(b:aT):CT prog (iI a b):=⟨36,[.ag (bJ a),.ag (bJ b)],[],λr=>vb r,λr=>[],cw (iI.eq_1 ..) func36 ntmps36 results36⟩
def ld(a:bV)(b:bV):Option Bool:=
 cond (YL (a.kind=b.kind))
 ((iI a.aQ b.aQ).bind λy1=>
 cond y1
 (cond (YL (a.order=b.order))
 (cond (YL (a.bz=b.bz))
 (cond (YL (a.bM=b.bM))
 (YH (YL (a.bj=b.bj)))
 (YH YK))
 (YH YK))
 (YH YK))
 (YH YK))
 (YH YK)
instance (a:bV)(b:bV):CT prog (ld a b):=⟨37,[.ag (gF a),.ag (gF b)],[],λr=>vb r,λr=>[],cw (ld.eq_1 ..) func37 ntmps37 results37⟩
def eE(a:bV):Option Bool:=
 (jn 3 22 (
 cond (YL (a.kind=1))
 ((gb a.aQ).bind λy1=>
 YH (.inl (y1,a.aQ.label.ay,a.aQ.label.da,a.aQ.label.a8,a.aQ.au,a.aQ.ab,a.aQ.bH,a.aQ.value,0,0,0,0,0)))
 (cond (YL (a.kind=2))
 ((aZ a.order 1 9999).bind λy2=>
 cond y2
 ((aZ a.bz 1 100000).bind λy3=>
 YH (.inl (y3,0,0,⟨#[]⟩,⟨#[]⟩,0,[],0,a.order,a.bz,0,0,0)))
 (YH (.inl (YK,0,0,⟨#[]⟩,⟨#[]⟩,0,[],0,a.order,a.bz,0,0,0))))
 (cond (YL (a.kind=3))
 ((aZ a.bM 0 100000).bind λy4=>
 YH (.inl (y4,0,0,⟨#[]⟩,⟨#[]⟩,0,[],0,0,0,a.bM,0,0)))
 (cond (YL (a.kind=4))
 ((aZ a.bj.bD 0 19).bind λy5=>
 cond y5
 ((aZ a.bj.day 0 60).bind λy6=>
 YH (.inl (y6,0,0,⟨#[]⟩,⟨#[]⟩,0,[],0,0,0,0,a.bj.bD,a.bj.day)))
 (YH (.inl (YK,0,0,⟨#[]⟩,⟨#[]⟩,0,[],0,0,0,0,a.bj.bD,a.bj.day))))
 (cond (YL (a.kind=5))
 (YH (.inl (YJ,0,0,⟨#[]⟩,⟨#[]⟩,0,[],0,0,0,0,0,0)))
 (cond (YL (a.kind=6))
 ((aZ a.order 1 9999).bind λy7=>
 YH (.inl (y7,0,0,⟨#[]⟩,⟨#[]⟩,0,[],0,a.order,0,0,0,0)))
 (YH (.inl (YK,0,0,⟨#[]⟩,⟨#[]⟩,0,[],0,0,0,0,0,0)))))))):Option ((Bool×Int×Int×ByteArray×ByteArray×Int×(List Int)×Int×Int×Int×Int×Int×Int)⊕Empty)) (λz8=>(.un::.be 0 0 0::.un::.be 1 0 0::vb z8.1::(U 68 []))) (λz8=>[YH ⟨.of 48,13,[[vi a.kind,vi a.aQ.label.ay,vi a.aQ.label.da,vs a.aQ.label.a8,vs a.aQ.au,vi a.aQ.ab,.sl (a.aQ.bH.map aE),vi a.aQ.value,vi a.order,vi a.bz,vi a.bM,vi a.bj.bD,vi a.bj.day]]⟩,YH ⟨.of 48,13,[[vi a.kind,vi z8.2.1,vi z8.2.2.1,vs z8.2.2.2.1,vs z8.2.2.2.2.1,vi z8.2.2.2.2.2.1,.sl (z8.2.2.2.2.2.2.1.map aE),vi z8.2.2.2.2.2.2.2.1,vi z8.2.2.2.2.2.2.2.2.1,vi z8.2.2.2.2.2.2.2.2.2.1,vi z8.2.2.2.2.2.2.2.2.2.2.1,vi z8.2.2.2.2.2.2.2.2.2.2.2.1,vi z8.2.2.2.2.2.2.2.2.2.2.2.2]]⟩])).bind (bk (λz8=>
 cond z8.1
 ((ld a (⟨a.kind,(⟨(⟨z8.2.1,z8.2.2.1,z8.2.2.2.1⟩:cq),z8.2.2.2.2.1,z8.2.2.2.2.2.1,z8.2.2.2.2.2.2.1,z8.2.2.2.2.2.2.2.1⟩:aT),z8.2.2.2.2.2.2.2.2.1,z8.2.2.2.2.2.2.2.2.2.1,z8.2.2.2.2.2.2.2.2.2.2.1,(⟨z8.2.2.2.2.2.2.2.2.2.2.2.1,z8.2.2.2.2.2.2.2.2.2.2.2.2⟩:av)⟩:bV)).bind λy9=>
 YH y9)
 (YH YK)) (λr=>r.elim))
instance (a:bV):CT prog (eE a):=⟨26,[.ag (gF a)],[],λr=>vb r,λr=>[],cw (eE.eq_1 ..) func26 ntmps26 results26⟩
def lX(l:List Int)(s0:Int):Option (Int⊕(Unit⊕Bool)):=
 cond (YL (s0<(l.length:Int)))
 ((aB l s0).bind λy1=>
 (bc y1 1 2000).bind λy2=>
 cond (!y2)
 (YH (.inr (.inr YK)))
 (YH (.inl (aI (s0+1)))))
 (YH (.inr (.inl ())))
instance (l:List Int):bo (lX l):=⟨λs0=>(.sl (l.map aE)::.un::.un::vi s0::(U 15 [])),λs0=>[]⟩
def jh(l:List Int):Option Bool:=
 (aD (lX l) NN 0).bind (bk (λo0=>
 YH (YL ((l.length:Int)=3))) (λr=>YH r))
instance (l:List Int):CT prog (jh l):=⟨224,[.sl (l.map aE)],[],λr=>vb r,λr=>[],cw (jh.eq_1 ..) func224 ntmps224 results224⟩
def dP(l:cq):Option Bool:=
 (bc l.ay 1 3).bind λy1=>
 cond y1
 ((bc l.da 0 999999999).bind λy2=>
 cond y2
 ((bT l.a8).bind λy3=>
 YH y3)
 (YH YK))
 (YH YK)
instance (l:cq):CT prog (dP l):=⟨223,[.ag (rH l)],[],λr=>vb r,λr=>[],cw (dP.eq_1 ..) func223 ntmps223 results223⟩
def qy(l:bK):Option Bool:=
 (dM l.au).bind λy1=>
 cond y1
 ((dM l.a8).bind λy2=>
 cond y2
 (cond (!decide (l.au=l.a8))
 ((aZ l.start 0 1439).bind λy3=>
 cond y3
 ((aZ l.mP 1 4320).bind λy4=>
 cond y4
 ((aZ l.uK 1 127).bind λy5=>
 cond y5
 ((aZ l.iU 0 1000000).bind λy6=>
 YH y6)
 (YH YK))
 (YH YK))
 (YH YK))
 (YH YK))
 (YH YK))
 (YH YK)
instance (l:bK):CT prog (qy l):=⟨204,[.ag (bn l)],[],λr=>vb r,λr=>[],cw (qy.eq_1 ..) func204 ntmps204 results204⟩
def ml(n:aj)(s0:Int):Option (Int⊕(Unit⊕Bool)):=
 cond (YL (s0<(n.aA.length:Int)))
 ((aB n.aA s0).bind λy1=>
 (qy y1).bind λy2=>
 cond (!y2)
 (YH (.inr (.inr YK)))
 (YH (.inl (aI (s0+1)))))
 (YH (.inr (.inl ())))
instance (n:aj):bo (ml n):=⟨λs0=>(.un::.be 0 0 0::(U 6 (.sl (n.aA.map bn)::vi (n.aA.length:Int)::vi s0::(U 48 [])))),λs0=>[YH ⟨.of 27,3,[[.sl (n.aA.map bn),.sl (n.off.map aE),vi n.change]]⟩]⟩
def mn(n:aj)(s1:Int):Option (Int⊕(Unit⊕Bool)):=
 cond (YL (s1<(n.off.length:Int)))
 ((aB n.off s1).bind λy3=>
 (aZ y3 0 60).bind λy4=>
 cond (!y4)
 (YH (.inr (.inr YK)))
 (cond (YL (0<s1))
 ((aB n.off (aI (s1-1))).bind λy5=>
 cond (YL (y3<=y5))
 (YH (.inr (.inr YK)))
 (YH (.inl (aI (s1+1)))))
 (YH (.inl (aI (s1+1))))))
 (YH (.inr (.inl ())))
instance (n:aj):bo (mn n):=⟨λs1=>(.un::.be 0 0 0::(U 17 (.sl (n.off.map aE)::vi (n.off.length:Int)::vi s1::(U 37 [])))),λs1=>[YH ⟨.of 27,3,[[.sl (n.aA.map bn),.sl (n.off.map aE),vi n.change]]⟩]⟩
def eW(n:aj):Option Bool:=
 (aD (ml n) NN 0).bind (bk (λo0=>
 (aD (mn n) NN 0).bind (bk (λo1=>
 cond (YL ((n.aA.length:Int)<=20))
 (cond (YL ((n.off.length:Int)<=10))
 ((aZ n.change 0 240).bind λy6=>
 YH y6)
 (YH YK))
 (YH YK)) (λr=>YH r))) (λr=>YH r))
instance (n:aj):CT prog (eW n):=⟨150,[.ag (bA n)],[],λr=>vb r,λr=>[],cw (eW.eq_1 ..) func150 ntmps150 results150⟩
def nX(l:List av)(t:av)(s0:Int):Option (Int⊕(Unit⊕Bool)):=
 cond (YL (s0<(l.length:Int)))
 ((aB l s0).bind λy1=>
 cond (YL (y1=t))
 (YH (.inr (.inr YJ)))
 (YH (.inl (aI (s0+1)))))
 (YH (.inr (.inl ())))
instance (l:List av)(t:av):bo (nX l t):=⟨λs0=>(U 3 (.be 0 0 0::(U 3 (.sl (l.map aW)::vi (l.length:Int)::vi s0::(U 7 []))))),λs0=>[YH ⟨.of 46,2,[[vi t.bD,vi t.day]]⟩]⟩
def eR(l:List av)(t:av):Option Bool:=
 (aD (nX l t) NN 0).bind (bk (λo0=>
 YH YK) (λr=>YH r))
instance (l:List av)(t:av):CT prog (eR l t):=⟨87,[.sl (l.map aW),.ag (aW t)],[],λr=>vb r,λr=>[],cw (eR.eq_1 ..) func87 ntmps87 results87⟩
def dK(l:List aq)(t:av)(s0:Int×Int):Option ((Int×Int)⊕Int):=
 cond (YL (s0.2<(l.length:Int)))
 ((aB l s0.2).bind λy1=>
 cond (YL (y1.bj=t))
 ((aB l s0.2).bind λy2=>
 YH (.inl ((aI (s0.1+y2.ab)),(aI (s0.2+1)))))
 (YH (.inl (s0.1,(aI (s0.2+1))))))
 (YH (.inr s0.1))
instance (l:List aq)(t:av):bo (dK l t):=⟨λs0=>(.sl (l.map aC)::.un::.un::.be 0 0 0::.un::vi s0.1::vi s0.2::(U 21 [])),λs0=>[YH ⟨.of 46,2,[[vi t.bD,vi t.day]]⟩]⟩
def dD(l:List aq)(t:av):Option Int:=
 (aD (dK l t) NN (0,0)).bind (λo0=>
 YH o0)
instance (l:List aq)(t:av):CT prog (dD l t):=⟨279,[.sl (l.map aC),.ag (aW t)],[],λr=>vi r,λr=>[],cw (dD.eq_1 ..) func279 ntmps279 results279⟩
def kZ(list:List Int)(s0:Int):Option (Int⊕(Unit⊕Int)):=
 cond (YL (s0<(list.length:Int)))
 ((aB list s0).bind λy1=>
 cond (!decide (y1=0))
 (YH (.inr (.inr y1)))
 (YH (.inl (aI (s0+1)))))
 (YH (.inr (.inl ())))
instance (list:List Int):bo (kZ list):=⟨λs0=>(U 5 (.sl (list.map aE)::vi (list.length:Int)::vi s0::(U 7 []))),λs0=>[]⟩
def oS(list:List Int):Option Int:=
 (aD (kZ list) NN 0).bind (bk (λo0=>
 YH 0) (λr=>YH r))
instance (list:List Int):CT prog (oS list):=⟨92,[.sl (list.map aE)],[],λr=>vi r,λr=>[],cw (oS.eq_1 ..) func92 ntmps92 results92⟩
def gI(o:az):Option Int:=
 cond (YL (o.state=2))
 (YH (if(o.aG.length:Int)<(aI (o.aN+1))then(o.aG.length:Int)else(aI (o.aN+1))))
 (YH o.aN)
instance (o:az):CT prog (gI o):=⟨146,[.ag (ba o)],[],λr=>vi r,λr=>[],cw (gI.eq_1 ..) func146 ntmps146 results146⟩
def mT(w:ax)(o:az):Option ByteArray:=
 cond (YL (o.state=2))
 ((aB o.aG o.aN).bind λy1=>
 (aB w.aa.aA y1.bD).bind λy2=>
 YH y2.a8)
 (YH o.place)
instance (w:ax)(o:az):CT prog (mT w o):=⟨203,[.ag (fY w),.ag (ba o)],[],λr=>vs r,λr=>[],cw (mT.eq_1 ..) func203 ntmps203 results203⟩
def fT(w:ax)(o:az):Option Bool:=
 cond (!decide (o.state=3))
 ((gI o).bind λy1=>
 cond (YL (y1=(o.aG.length:Int)))
 ((mT w o).bind λy2=>
 YH (!decide (y2=o.a8)))
 (YH YK))
 (YH YK)
instance (w:ax)(o:az):CT prog (fT w o):=⟨149,[.ag (fY w),.ag (ba o)],[],λr=>vb r,λr=>[],cw (fT.eq_1 ..) func149 ntmps149 results149⟩
def eU(n:aj)(x:az):Option ByteArray:=
 cond (YL (x.state=2))
 ((aB x.aG x.aN).bind λy1=>
 (aB n.aA y1.bD).bind λy2=>
 YH y2.a8)
 (YH x.place)
instance (n:aj)(x:az):CT prog (eU n x):=⟨295,[.ag (bA n),.ag (ba x)],[],λr=>vs r,λr=>[],cw (eU.eq_1 ..) func295 ntmps295 results295⟩
def sZ(places:List ByteArray)(s:ByteArray)(s0:Int):Option (Int⊕(Unit⊕Int)):=
 cond (YL (s0<(places.length:Int)))
 ((aB places s0).bind λy1=>
 cond (YL (y1=s))
 (YH (.inr (.inr s0)))
 (YH (.inl (aI (s0+1)))))
 (YH (.inr (.inl ())))
instance (places:List ByteArray)(s:ByteArray):bo (sZ places s):=⟨λs0=>(.un::vs s::(U 5 (.sl (places.map jK)::vi (places.length:Int)::vi s0::(U 9 [])))),λs0=>[]⟩
def bS(places:List ByteArray)(s:ByteArray):Option Int:=
 (aD (sZ places s) NN 0).bind (bk (λo0=>
 YH (-1)) (λr=>YH r))
instance (places:List ByteArray)(s:ByteArray):CT prog (bS places s):=⟨154,[.sl (places.map jK),vs s],[],λr=>vi r,λr=>[],cw (bS.eq_1 ..) func154 ntmps154 results154⟩
def mr(l:List aq)(bw:Int)(t:av)(ab:Int)(s0:Int):Option (Int⊕(Unit⊕Bool)):=
 cond (YL (s0<(l.length:Int)))
 ((aB l s0).bind λy1=>
 cond (YL (y1=(⟨bw,t,ab⟩:aq)))
 (YH (.inr (.inr YJ)))
 (YH (.inl (aI (s0+1)))))
 (YH (.inr (.inl ())))
instance (l:List aq)(bw:Int)(t:av)(ab:Int):bo (mr l bw t ab):=⟨λs0=>(.sl (l.map aC)::vi bw::.un::vi ab::.un::.un::.be 0 0 0::.un::.un::vi s0::(U 15 [])),λs0=>[YH ⟨.of 46,2,[[vi t.bD,vi t.day]]⟩]⟩
def mO(l:List aq)(bw:Int)(t:av)(ab:Int):Option Bool:=
 (aD (mr l bw t ab) NN 0).bind (bk (λo0=>
 YH YK) (λr=>YH r))
instance (l:List aq)(bw:Int)(t:av)(ab:Int):CT prog (mO l bw t ab):=⟨283,[.sl (l.map aC),vi bw,.ag (aW t),vi ab],[],λr=>vb r,λr=>[],cw (mO.eq_1 ..) func283 ntmps283 results283⟩
def km(l:List bI)(s0:Int):Option (Int⊕(Unit⊕Bool)):=
 cond (YL (s0<(l.length:Int)))
 ((jn 3 6 (
 (aB l s0).bind λy1=>
 (dM y1.first).bind λy2=>
 cond (!y2)
 (YH (.inr YK))
 ((dM y1.last).bind λy3=>
 cond (!y3)
 (YH (.inr YK))
 (cond (!LO y1.first y1.last)
 (YH (.inr YK))
 (cond (YL (0<s0))
 ((aB l (aI (s0-1))).bind λy4=>
 cond (LO y1.first y4.last)
 (YH (.inr YK))
 (YH (.inl ())))
 (YH (.inl ()))))):Option (Unit⊕Bool)) (λz5=>(.sl (l.map cG)::(U 4 (.sl (l.map cG)::vi (l.length:Int)::vi s0::(U 40 []))))) (λz5=>[])).bind (bk (λz5=>
 YH (.inl (aI (s0+1)))) (λr=>YH (.inr (.inr r)))))
 (YH (.inr (.inl ())))
instance (l:List bI):bo (km l):=⟨λs0=>(.sl (l.map cG)::(U 4 (.sl (l.map cG)::vi (l.length:Int)::vi s0::(U 40 [])))),λs0=>[]⟩
def ju(l:List bI):Option Bool:=
 (aD (km l) NN 0).bind (bk (λo0=>
 YH (YL ((l.length:Int)<=8))) (λr=>YH r))
instance (l:List bI):CT prog (ju l):=⟨39,[.sl (l.map cG)],[],λr=>vb r,λr=>[],cw (ju.eq_1 ..) func39 ntmps39 results39⟩
def oR(l:List bI)(jy:ByteArray)(s0:Int):Option (Int⊕(Unit⊕Int)):=
 cond (YL (s0<(l.length:Int)))
 ((jn 5 8 (
 (aB l s0).bind λy3=>
 cond (LO y3.first jy)
 (cond (LO jy y3.last)
 (YH (.inr s0))
 (YH (.inl ())))
 (YH (.inl ())):Option (Unit⊕Int)) (λz4=>(.un::vs jy::(U 13 (.sl (l.map cG)::vi (l.length:Int)::vi s0::(U 16 []))))) (λz4=>[])).bind (bk (λz4=>
 YH (.inl (aI (s0+1)))) (λr=>YH (.inr (.inr r)))))
 (YH (.inr (.inl ())))
instance (l:List bI)(jy:ByteArray):bo (oR l jy):=⟨λs0=>(.un::vs jy::(U 13 (.sl (l.map cG)::vi (l.length:Int)::vi s0::(U 16 [])))),λs0=>[]⟩
def px(l:List bI)(jy:ByteArray):Option Int:=
 (ju l).bind λy1=>
 cond (!y1)
 (YH (-1))
 ((dM jy).bind λy2=>
 cond (!y2)
 (YH (-1))
 ((aD (oR l jy) NN 0).bind (bk (λo0=>
 YH (-1)) (λr=>YH r))))
instance (l:List bI)(jy:ByteArray):CT prog (px l jy):=⟨95,[.sl (l.map cG),vs jy],[],λr=>vi r,λr=>[],cw (px.eq_1 ..) func95 ntmps95 results95⟩
def nD(bH:List Int):Option Int:=
 (jq bH).bind λy1=>
 cond (!y1)
 (YH 0)
 ((aB bH 0).bind λy2=>
 (aB bH 1).bind λy3=>
 (aB bH 2).bind λy4=>
 YH (aI ((aI (y2*y3))*y4)))
instance (bH:List Int):CT prog (nD bH):=⟨160,[.sl (bH.map aE)],[],λr=>vi r,λr=>[],cw (nD.eq_1 ..) func160 ntmps160 results160⟩
def gX(p:aT):Option Int:=
 (gb p).bind λy1=>
 cond (!y1)
 (YH 0)
 ((nD p.bH).bind λy2=>
 YH (if(IntKind.i64.wrap (Int.tdiv (aI (y2+4999)) 5000)) > p.ab then(IntKind.i64.wrap (Int.tdiv (aI (y2+4999)) 5000))else p.ab))
instance (p:aT):CT prog (gX p):=⟨96,[.ag (bJ p)],[],λr=>vi r,λr=>[],cw (gX.eq_1 ..) func96 ntmps96 results96⟩
def kB(l:List bI)(s0:Int):Option (Int⊕(Unit⊕Bool)):=
 cond (YL (s0<(l.length:Int)))
 ((jn 4 3 (
 (aB l s0).bind λy1=>
 (bT y1.first).bind λy2=>
 cond (!y2)
 (YH (.inr YK))
 ((aB l s0).bind λy3=>
 (bT y3.last).bind λy4=>
 cond (!y4)
 (YH (.inr YK))
 ((aB l s0).bind λy5=>
 (aB l s0).bind λy6=>
 cond (!LO y5.first y6.last)
 (YH (.inr YK))
 (cond (YL (0<s0))
 ((aB l (aI (s0-1))).bind λy7=>
 (aB l s0).bind λy8=>
 cond (!qM y7.last y8.first)
 (YH (.inr YK))
 (YH (.inl ())))
 (YH (.inl ()))))):Option (Unit⊕Bool)) (λz9=>(.sl (l.map cG)::.un::.un::vi s0::(U 56 []))) (λz9=>[])).bind (bk (λz9=>
 YH (.inl (aI (s0+1)))) (λr=>YH (.inr (.inr r)))))
 (YH (.inr (.inl ())))
instance (l:List bI):bo (kB l):=⟨λs0=>(.sl (l.map cG)::.un::.un::vi s0::(U 56 [])),λs0=>[]⟩
def jx(l:List bI):Option Bool:=
 (aD (kB l) NN 0).bind (bk (λo0=>
 YH (YL ((l.length:Int)<=8))) (λr=>YH r))
instance (l:List bI):CT prog (jx l):=⟨170,[.sl (l.map cG)],[],λr=>vb r,λr=>[],cw (jx.eq_1 ..) func170 ntmps170 results170⟩
def oE(a:bL)(b:bL):Option Bool:=
 cond (YL (a.nt<b.nt))
 (YH YJ)
 (cond (YL (b.nt=a.nt))
 (cond (YL (a.ay<b.ay))
 (YH YJ)
 (cond (YL (b.ay=a.ay))
 (cond (YL (a.nU<b.nU))
 (YH (YL (a.kQ<=b.kQ)))
 (YH YK))
 (YH YK)))
 (YH YK))
instance (a:bL)(b:bL):CT prog (oE a b):=⟨219,[.ag (cI a),.ag (cI b)],[],λr=>vb r,λr=>[],cw (oE.eq_1 ..) func219 ntmps219 results219⟩
def kA(l:List bL)(aY:Int)(s0:Int):Option (Int⊕(Unit⊕Bool)):=
 cond (YL (s0<(l.length:Int)))
 ((jn 4 3 (
 (aB l s0).bind λy1=>
 cond (YL (y1.nt<0))
 (YH (.inr YK))
 ((aB l s0).bind λy2=>
 cond (YL (aY<=y2.nt))
 (YH (.inr YK))
 ((aB l s0).bind λy3=>
 (bc y3.ay 1 3).bind λy4=>
 cond (!y4)
 (YH (.inr YK))
 ((aB l s0).bind λy5=>
 (bc y5.nU 1 1000000000).bind λy6=>
 cond (!y6)
 (YH (.inr YK))
 ((aB l s0).bind λy7=>
 (bc y7.kQ 0 100000).bind λy8=>
 cond (!y8)
 (YH (.inr YK))
 (cond (YL (0<s0))
 ((aB l (aI (s0-1))).bind λy9=>
 (aB l s0).bind λdL=>
 (oE y9 dL).bind λji=>
 cond (!ji)
 (YH (.inr YK))
 (YH (.inl ())))
 (YH (.inl ()))))))):Option (Unit⊕Bool)) (λz12=>(.sl (l.map cI)::vi aY::(U 3 (vi s0::(U 68 []))))) (λz12=>[])).bind (bk (λz12=>
 YH (.inl (aI (s0+1)))) (λr=>YH (.inr (.inr r)))))
 (YH (.inr (.inl ())))
instance (l:List bL)(aY:Int):bo (kA l aY):=⟨λs0=>(.sl (l.map cI)::vi aY::(U 3 (vi s0::(U 68 [])))),λs0=>[]⟩
def lj(l:List bL)(aY:Int):Option Bool:=
 (aD (kA l aY) NN 0).bind (bk (λo0=>
 YH (YL ((l.length:Int)<=24))) (λr=>YH r))
instance (l:List bL)(aY:Int):CT prog (lj l aY):=⟨171,[.sl (l.map cI),vi aY],[],λr=>vb r,λr=>[],cw (lj.eq_1 ..) func171 ntmps171 results171⟩
def iQ(l:List bI)(jy:ByteArray)(s0:Int):Option (Int⊕(Unit⊕Int)):=
 cond (YL (s0<(l.length:Int)))
 ((jn 6 5 (
 (aB l s0).bind λy3=>
 cond (LO y3.first jy)
 ((aB l s0).bind λy4=>
 cond (LO jy y4.last)
 (YH (.inr s0))
 (YH (.inl ())))
 (YH (.inl ())):Option (Unit⊕Int)) (λz5=>(.sl (l.map cG)::vs jy::(U 3 (vi s0::(U 31 []))))) (λz5=>[])).bind (bk (λz5=>
 YH (.inl (aI (s0+1)))) (λr=>YH (.inr (.inr r)))))
 (YH (.inr (.inl ())))
instance (l:List bI)(jy:ByteArray):bo (iQ l jy):=⟨λs0=>(.sl (l.map cG)::vs jy::(U 3 (vi s0::(U 31 [])))),λs0=>[]⟩
def nQ(l:List bI)(jy:ByteArray):Option Int:=
 (jx l).bind λy1=>
 cond (!y1)
 (YH (-1))
 ((bT jy).bind λy2=>
 cond (!y2)
 (YH (-1))
 ((aD (iQ l jy) NN 0).bind (bk (λo0=>
 YH (-1)) (λr=>YH r))))
instance (l:List bI)(jy:ByteArray):CT prog (nQ l jy):=⟨286,[.sl (l.map cG),vs jy],[],λr=>vi r,λr=>[],cw (nQ.eq_1 ..) func286 ntmps286 results286⟩
def lp(bH:List Int):Option Int:=
 (jh bH).bind λy1=>
 cond (!y1)
 (YH 0)
 ((aB bH 0).bind λy2=>
 (aB bH 1).bind λy3=>
 (aB bH 2).bind λy4=>
 YH (aI ((aI (y2*y3))*y4)))
instance (bH:List Int):CT prog (lp bH):=⟨347,[.sl (bH.map aE)],[],λr=>vi r,λr=>[],cw (lp.eq_1 ..) func347 ntmps347 results347⟩
structure Ln where
 o:Int
 k:Int
 a:Int
 t:Int
variable {b:List Ln}{x:Ln}
instance :eQ Ln where
 cells x:=[I x.o,I x.k,I x.a,I x.t]
 k:=4
 len _:=rfl
 pos:=by decide
 one:=by simp[Value.oneCell',I]
theorem Rd.ln{w:World}{B:Nat}{A:Option Addr}{xs:List Ln}(h:Rd w B A xs)(hx:xs[i]?=YH x):
 ∃b off,A=YH ⟨b,off,YI⟩/\b<B/\w.cell? ⟨b,off+i*4,YI⟩=YH (I x.o)/\w.cell? ⟨b,off+i*4+1,YI⟩=YH (I x.k)/\w.cell? ⟨b,off+i*4+2,YI⟩=YH (I x.a)/\w.cell? ⟨b,off+i*4+3,YI⟩=YH (I x.t):=by
 obtain⟨b,off,e,hb,hc⟩:=h.aP hx;exact⟨b,off,e,hb,hc 0 _ rfl,hc 1 _ rfl,hc 2 _ rfl,hc 3 _ rfl⟩
instance :Inhabited Ln:=⟨⟨0,0,0,0⟩⟩
def vd(n l h:Int):Bool:=YL (l<=n)&&YL (n<=h)
def pr(o k a t:Int):Bool:=vd o 1 9999&&vd k 1 3&&vd a 1 100000&&vd t 0 100000
def ZdG(x y:Ln):Bool:=x.o==y.o&&x.k==y.k&&x.a==y.a&&x.t==y.t
theorem QZ{x y:Ln}:ZdG x y=YJ↔x=y:=by
 cases x;cases y;simp[ZdG,and_assoc]
instance :DecidableEq Ln:=λ_ _=>decidable_of_iff _ QZ
def l0(o k:Int)(s:Int)(x:Ln):Int:=if(x.o==o&&x.k==k)=YJ then wrap64 (s+x.a)else s
def cr(xs:List Ln)(o k:Int):Int:=xs.foldl (l0 o k) 0
def sH(xs:List Int)(j:Nat):Bool:=vd (xs.getD j 0) 0 100&&(YL (j=0) ||YL (xs.getD (j-1) 0<=xs.getD j 0))
def oH(xs:List Int):Bool:=xA xs.length (sH xs)&&vd xs.length 1 6
theorem O2{xs:List Int}{x:Int}(hx:xs[i]?=YH x)(h:vd x 0 100=YK):sH xs i=false:=by simp[sH,hx,h]
theorem Lh{xs:List Int}{x:Int}(h0:i<=0)(hx:xs[i]?=YH x)(h:vd x 0 100=YJ):sH xs i=true:=by
 obtain rfl:i=0:=X9;simp[sH,hx,h]
theorem Lg{xs:List Int}{x y:Int}(hy:xs[i]?=YH y)(hx:xs[i+1]?=YH x)(h:x<y):sH xs (i+1)=false:=by
 simp[sH,hx,hy];omega
theorem Ss{xs:List Int}{x y:Int}(hy:xs[i]?=YH y)(hx:xs[i+1]?=YH x)(hb:vd x 0 100=YJ)(h:¬x<y):sH xs (i+1)=true:=by
 simp[sH,hx,hy,hb];omega
theorem oe{n l h:Int}(e:vd n l h=YJ):l<=n/\n<=h:=by simpa[vd]using e
theorem CC{xs:List Int}(h:oH xs=YJ):1<=xs.length/\xs.length<=6/\∀(i:Nat) (x:Int),xs[i]?=YH x->0<=x/\x<=100:=by
 simp only[oH,V6]at h
 have h2:=oe h.2;refine⟨X9,X9,λi x hx=>?_⟩
 have h3:=vJ.1 h.1 i (Es hx);simp[sH,hx]at h3
 exact oe h3.1
def St(c x:Int):Int:=wrap64 ((wrap64 (c*x)).tdiv 100)
def CM(oc dW bB:Int)(ps:List Int):Bool:=oH ps&&vd oc 0 100000&&vd dW 0 200000&&vd bB 0 200000&&!decide (bB<=dW)
def qF(dW bB:Int)(ps:List Int):Nat:=if(bB-dW-1) / 1440<(ps.length:Int)then((bB-dW-1) / 1440).toNat else ps.length-1
def uw(oc dW bB:Int)(ps:List Int):Int:=if CM oc dW bB ps then St oc (ps.getD (qF dW bB ps) 0)else 0
def rT(o k:Int)(s:Int)(x:Ln):Int:=if(x.o==o&&x.k==k)=YJ then wrap64 (s+1)else s
def xK(xs:List Ln)(o k:Int):Int:=xs.foldl (rT o k) 0
theorem u5(o k:Int):∀(b:List Ln) (c s:Int),(∀x∈b,1<=x.a/\x.a<=100000)->0<=c->c+b.length<=200->c<=s->s<=100000*c->
 0<=b.foldl (rT o k) c/\b.foldl (rT o k) c<=c+b.length/\b.foldl (rT o k) c<=b.foldl (l0 o k) s/\b.foldl (l0 o k) s<=100000*b.foldl (rT o k) c
 | [],c,s,_,h0,hl,h1,h2=>⟨h0,by simp,h1,h2⟩
 |x::b,c,s,ha,h0,hl,h1,h2=>by
  have hx:=ha x Ye;simp only[VZ]at hl
  have e1:wrap64 (c+1)=c+1:=IntWalk.wrap64_in _ ⟨X9,X9⟩;have e2:wrap64 (s+x.a)=s+x.a:=IntWalk.wrap64_in _ ⟨X9,X9⟩
  by_cases h:(x.o==o&&x.k==k)=YJ
  ·have r:=u5 o k b (c+1) (s+x.a) (λy hy=>ha y Yd) X9 X9 X9 X9
   simp only[Wn,rT,l0,h,if_true,e1,e2]at r⊢
   grind
  ·have r:=u5 o k b c s (λy hy=>ha y Yd) h0 X9 h1 h2
   simp only[Wn,rT,l0,if_neg h]at r⊢
   grind
theorem Fs(o k:Int)(ha:∀x∈b,1<=x.a/\x.a<=100000)(hl:b.length<=200):0<=xK b o k/\xK b o k<=b.length/\xK b o k<=cr b o k/\cr b o k<=100000*xK b o k:=by
 have r:=u5 o k b 0 0 ha X9 X9 X9 X9;refine⟨r.1,by have:=r.2.1;unfold xK;omega,r.2.2.1,r.2.2.2⟩
/-! ### Zc3 -/
def xE(xs:List Ln)(i:Nat)(x:Ln):Bool:=!(pr x.o x.k x.a x.t) ||(YL (0<i)&&YL (x.t<(xs.getD (i-1) default).t))
def uH(b:List Ln)(x:Ln):Bool:=
 if x.k=1 then !decide (0<cr b x.o 1)
 else if x.k=2 then !decide (cr b x.o 1<wrap64 (cr b x.o 2+x.a))
 else !decide (0<cr b x.o 3)&&(cr b x.o 2==cr b x.o 1)&&!decide (cr b x.o 1<x.a)
def tc(xs:List Ln)(i:Nat):Bool:=!(xE xs i (xs.getD i default))&&uH (xs.take i) (xs.getD i default)
def dG(xs:List Ln):Bool:=YL (xs.length<=200)&&xA xs.length (tc xs)
theorem vl{xs:List Ln}(h:¬xs.length<=200):dG xs=false:=by simp[dG,h]
theorem Ag{xs:List Ln}(h:xE xs i x=YK):pr x.o x.k x.a x.t=true:=by
 simp only[xE,Bool.or_eq_false_iff,Bool.not_eq_false']at h;grind
theorem ZbI(hk:x.k=1):uH b x=!decide (0<cr b x.o 1):=by simp[uH,hk]
theorem ZbJ(hk:x.k=2):uH b x=!decide (cr b x.o 1<wrap64 (cr b x.o 2+x.a)):=by simp[uH,hk]
theorem ZbK(hk:x.k=3):uH b x=(!decide (0<cr b x.o 3)&&(cr b x.o 2==cr b x.o 1)&&!decide (cr b x.o 1<x.a)):=by simp[uH,hk]
theorem vK(h:pr x.o x.k x.a x.t=YJ):1<=x.a/\x.a<=100000:=by
 simp only[pr,V6]at h
 exact oe h.1.2
theorem yH{xs:List Ln}(h:xA i (tc xs)=YJ):∀x∈xs.take i,1<=x.a/\x.a<=100000:=by
 intro x hx;obtain⟨j,hj⟩:=List.getElem?_of_mem hx;rw[List.getElem?_take]at hj
 split at hj
 ·rename_i bU
  have h1:=vJ.1 h j bU;simp only[tc,List.getD_eq_getElem?_getD,hj,Option.getD_some,V6,Bool.not_eq_true']at h1
  exact vK (Ag h1.1)
 simp_all
theorem Mh{xs:List Ln}(o k:Int)(h:xA i (tc xs)=YJ)(hl:i<=200):YL (0<xK (xs.take i) o k)=YL (0<cr (xs.take i) o k):=by
 have r:=Fs o k (yH h) Yd
 grind
theorem FP(h:pr x.o x.k x.a x.t=YJ):x.k=1\/x.k=2\/x.k=3:=by
 simp only[pr,V6]at h
 have:=oe h.1.1.2;omega
/-! ### L3 is ZhH,Zhb,Zdy,Zgw -/
def j3(xs:List Ln)(o:Int):Int:=if dG xs then wrap64 (cr xs o 1-cr xs o 2)else 0
def tq(s:Int)(x:Ln):Int:=if(x.k==2)=YJ then wrap64 (s+x.a)else if(x.k==3)=YJ then wrap64 (s-x.a)else s
def Fo(xs:List Ln):Int:=xs.foldl tq 0
def uG(xs:List Ln):Int:=if dG xs then Fo xs else 0
theorem Sl{xs:List Ln}{o:Int}(h:dG xs=YJ):j3 xs o=wrap64 (cr xs o 1-cr xs o 2):=by simp[j3,h]
theorem BC{xs:List Ln}(h:dG xs=YJ):uG xs=Fo xs:=by simp[uG,h]
theorem QC{xs:List Ln}(o k:Int)(h:dG xs=YJ):YL (0<xK xs o k)=YL (0<cr xs o k):=by
 simp only[dG,V6,decide_eq_true_eq]at h
 have:=Mh (xs:=xs) (i:=xs.length) o k h.2 h.1
 simp_all
theorem Jk{du en:Int}{ps:List Int}(h:oH ps=YJ)(he:¬en<=du):qF du en ps<ps.length:=by
 have:=(CC h).1;unfold qF
 grind
def tM(l:List Int)(n:Int)(s0:Int):Option (Int⊕(Unit⊕Bool)):=
 cond (YL (s0<(l.length:Int)))
 ((aB l s0).bind λy1=>
 cond (YL (y1=n))
 (YH (.inr (.inr YJ)))
 (YH (.inl (aI (s0+1)))))
 (YH (.inr (.inl ())))
instance (l:List Int)(n:Int):bo (tM l n):=⟨λs0=>(.un::vi n::(U 5 (.sl (l.map aE)::vi (l.length:Int)::vi s0::(U 7 [])))),λs0=>[]⟩
def pA(l:List Int)(n:Int):Option Bool:=
 (aD (tM l n) NN 0).bind (bk (λo0=>
 YH YK) (λr=>YH r))
instance (l:List Int)(n:Int):CT prog (pA l n):=⟨99,[.sl (l.map aE),vi n],[],λr=>vb r,λr=>[],cw (pA.eq_1 ..) func99 ntmps99 results99⟩
def fP(l:List aq):Option (List aq):=
 (bW (bm ((([]:List aq):List aq).length+(l:List aq).length) 32)).bind λ_=>
 YH ((([]:List aq):List aq)++l)
instance (l:List aq):CT prog (fP l):=⟨132,[.sl (l.map aC)],[],λr=>.ms 0,λr=>[YH ⟨.of 147,4,r.map aC⟩],cw (fP.eq_1 ..) func132 ntmps132 results132⟩
def eX(l:List av):Option (List av):=
 (bW (bm ((([]:List av):List av).length+(l:List av).length) 16)).bind λ_=>
 YH ((([]:List av):List av)++l)
instance (l:List av):CT prog (eX l):=⟨133,[.sl (l.map aW)],[],λr=>.ms 0,λr=>[YH ⟨.of 46,2,r.map aW⟩],cw (eX.eq_1 ..) func133 ntmps133 results133⟩
def je(n:aj):Option aj:=
 (bW (bm ((([]:List bK):List bK).length+(n.aA:List bK).length) 64)).bind λ_=>
 (bW (bm ((([]:List Int):List Int).length+(n.off:List Int).length) 8)).bind λ_=>
 YH (⟨((([]:List bK):List bK)++n.aA),((([]:List Int):List Int)++n.off),n.change⟩:aj)
instance (n:aj):CT prog (je n):=⟨131,[.ag (bA n)],[],λr=>.ag [.ms 0,.ms 1,vi r.change],λr=>[YH ⟨.of 144,6,r.aA.map bn⟩,YH ⟨.of 3,1,r.off.map aE⟩],cw (je.eq_1 ..) func131 ntmps131 results131⟩
def bF(l:List aU):Option (List aU):=
 (bW (bm ((([]:List aU):List aU).length+(l:List aU).length) 32)).bind λ_=>
 YH ((([]:List aU):List aU)++l)
instance (l:List aU):CT prog (bF l):=⟨69,[.sl (l.map bC)],[],λr=>.ms 0,λr=>[YH ⟨.of 85,4,r.map bC⟩],cw (bF.eq_1 ..) func69 ntmps69 results69⟩
def l9(x:aU):Option Bool:=
 (aZ x.order 1 9999).bind λy1=>
 cond y1
 ((aZ x.kind 1 3).bind λy2=>
 cond y2
 ((aZ x.bz 1 100000).bind λy3=>
 cond y3
 ((aZ x.aP 0 100000).bind λy4=>
 YH y4)
 (YH YK))
 (YH YK))
 (YH YK)
instance (x:aU):CT prog (l9 x):=⟨94,[.ag (bC x)],[],λr=>vb r,λr=>[],cw (l9.eq_1 ..) func94 ntmps94 results94⟩
def bZ(l:List aU):Option (List aU):=
 (bW (bm ((([]:List aU):List aU).length+(l:List aU).length) 32)).bind λ_=>
 YH ((([]:List aU):List aU)++l)
instance (l:List aU):CT prog (bZ l):=⟨106,[.sl (l.map bC)],[],λr=>.ms 0,λr=>[YH ⟨.of 85,4,r.map bC⟩],cw (bZ.eq_1 ..) func106 ntmps106 results106⟩
def nP(x:aU):Option Bool:=
 (bc x.order 1 9999).bind λy1=>
 cond y1
 ((bc x.kind 1 3).bind λy2=>
 cond y2
 ((bc x.bz 1 100000).bind λy3=>
 cond y3
 ((bc x.aP 0 100000).bind λy4=>
 YH y4)
 (YH YK))
 (YH YK))
 (YH YK)
instance (x:aU):CT prog (nP x):=⟨220,[.ag (bC x)],[],λr=>vb r,λr=>[],cw (nP.eq_1 ..) func220 ntmps220 results220⟩
end Go.Proofs.YtdilaemengjipaaGreatDoor
