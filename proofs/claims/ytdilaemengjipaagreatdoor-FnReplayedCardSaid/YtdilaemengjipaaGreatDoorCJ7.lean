/- A part of the proof of the statement in the last file of this claim: texts on the language of the program and on its functions. No condition. -/
import Derived.Test.YtdilaemengjipaaGreatDoorCJ4
import Derived.Test.YtdilaemengjipaaGreatDoorCJ3
import Derived.Maps.OwnSet
import Derived.StringKeys
import Derived.Deep.AppendLies
import Derived.Sort.OwnSorted
import Derived.Test.YtdilaemengjipaaGreatDoorCJ1
set_option linter.unusedVariables false
set_option linter.unusedSimpArgs false
set_option linter.unusedSectionVars false
open Go.Value renaming int->Y1
open Go.IntKind renaming i64->Y2
open Go renaming undef->Y3
open Option renaming some->YW,none->YX
open Bool renaming true->YY,false->YZ
open Decidable renaming decide->Y0
open Go.Proofs.Tryz
set_option maxHeartbeats 40000000
open List renaming foldl_cons->Wq,length_cons->V0
open Nat renaming le_refl->VY,le_trans->Wr
open Option.some renaming inj->VX
open Bool renaming and_eq_true->Wd
namespace Go.Proofs.YtdilaemengjipaaGreatDoor
set_option maxRecDepth 10000
open Go.RowKit Go.Maps Go.WideMaps
variable {Q:Exit->Act->World->Prop}{a:Act}{o:Oper}{ops:Array Oper}{rest:List Oper}
def QW(S:List ByteArray)(s:ByteArray):Bool:=S.any λy=>Y0 (y=s)
theorem NA{S:List ByteArray}{s:ByteArray}:QW S s=YY↔s∈S:=by simp[QW]
theorem Ja(S:List ByteArray)(s s':ByteArray):QW (S++[s]) s'=(QW S s' ||Y0 (s=s')):=by simp[QW]
def dd(out:List ByteArray)(s:ByteArray):List ByteArray:=if QW out s=YY then out else out++[s]
def iL(n:ah):List ByteArray:=n.aA.flatMap λl=>[l.ar,l.aY]
theorem uD{w w':World}{row:Option Nat}(h:w.grownBy w' row){b o:Nat}(hb:b<w.heap.size)(gZ:YW b≠row):w'.cell? ⟨b,o,YX⟩=w.cell? ⟨b,o,YX⟩:=by simp[World.cell?,h.block b hb gZ]
theorem Rd.NQ{α:Type}[eZ α](w:World)(T:TypeId)(x:α)(H:Nat)(hH:w.heap.size=H):Rd (w.alloc (.cells (eZ.cells x).toArray T)) (H+1) (YW ⟨H,0,YX⟩) [x]:=by
 subst hH;exact Rd.one w T x _ (Nat.lt_succ_self _)
theorem M4{w:World}{b o:Nat}{u:Value}{ob:Obj}(h:w.cell? ⟨b,o,YX⟩=YW u):(w.alloc ob).cell? ⟨b,o,YX⟩=YW u:=
 ((Up.al ob (Up.rfl' w)).cell (p:=⟨b,o,YX⟩) (World.block_lt_of_cell? _ _ h)).trans h
def sS(P:Program)(k e:TypeId)(w:World)(b n:Nat)(S:List ByteArray):Prop:=
 ∃D:DataW Unit,w.ownsMap P k (plainElem P e) b n D/\IsMap D/\∀s:ByteArray,D.atKey (.string s.data.toList) (.lit (.bool YZ))=.lit (.bool (QW S s))
section
variable {P:Program} {k e:TypeId} {w:World} {b n:Nat} {S:List ByteArray}
theorem sS.bg(w:World):sS P k e (w.alloc (.map #[] 0)) w.heap.size 0 []:=
 ⟨_,World.ownsMap_made w P k _,isMap_empty,λs=>by rfl⟩
theorem sS.kept{w':World}{row:Option Nat}(h:sS P k e w b n S)(hg:w.grownBy w' row)(gZ:YW b≠row):sS P k e w' b n S:=by
 obtain⟨D,h1,h2⟩:=h;exact⟨D,h1.kept hg gZ,h2⟩
theorem sS.alloc(h:sS P k e w b n S)(o:Obj):sS P k e (w.alloc o) b n S:=by
 obtain⟨D,h1,h2⟩:=h;exact⟨D,h1.alloc o,h2⟩
theorem sS.setCell(h:sS P k e w b n S){a:Addr}(ha:b≠a.block)(u:Value):sS P k e (w.setCell a u) b n S:=by
 obtain⟨D,h1,h2⟩:=h;exact⟨D,h1.setCell ha u,h2⟩
theorem sS.mono(h:sS P k e w b n S){n':Nat}(hn:n<=n'):sS P k e w b n' S:=by
 obtain⟨D,h1,h2⟩:=h;exact⟨D,h1.mono hn,h2⟩
theorem sS.lt(h:sS P k e w b n S):b<w.heap.size:=by obtain⟨D,h1,_⟩:=h;exact h1.lt
theorem ZaC{a b:Bool}(h:(DataW.lit (.bool a):DataW Unit)=.lit (.bool b)):a=b:=by simp_all
theorem Rw(he:P.underlying e=YW .bool){v:Value}{z:DataW Unit×List MemPlace}(h:plainElem P e v=YW z):∃c,v=.bool c/\z=(.lit (.bool c),[]):=by
 unfold plainElem at h
 grind
theorem gz(w:World)
 (hg:o.guard=YX) (m x:Operand) (t:TypeId) (hop:o.op=Op.lookup t m x YZ)
 (k e:TypeId) (hk:P.underlying k=YW .string) (ht:P.underlying t=YW (.map k e)) (he:P.underlying e=YW .bool) (hz:∀w,(zeroValue e).run P w=.ok (.bool YZ) w) (b n:Nat) (S:List ByteArray)
 (hm:a.eval m=.map (YW b)) (oC:sS P k e w b n S) (s:ByteArray) (hx:a.eval x=.string s) (hs:s.size<=maxLen) (c:Bool) (hc:QW S s=c)
 (hK:wpList P ops Q rest (a.put o.dst (.bool c)) w):
 wpList P ops Q (o::rest) a w:=by
 refine wpList_plain hg λK' hK'=>?_
 subst hc;obtain⟨D,h1,h2,h3⟩:=oC;obtain⟨v,ps,kv,hv⟩:=h1.lookup (string_keyed hk) ht (hz w) (plainElem_bool he YZ) (keyOf_string_mk hk hs);obtain⟨c,rfl,hc⟩:=Rw he hv;simp only[Prod.mk.injEq]at hc
 have BA:c=QW S s:=ZaC (hc.1.symm.trans (h3 s));subst BA;unfold Oper.wp;simp[execOp,hop,hm,hx,kv,Result.andThen];exact hK' _ _ hK
theorem oB(w:World)
 (hg:o.guard=YX) (m x v:Operand) (t:TypeId) (hop:o.op=Op.mapUpdate t m x v)
 (k e:TypeId) (hk:P.underlying k=YW .string) (ht:P.underlying t=YW (.map k e)) (he:P.underlying e=YW .bool) (b n:Nat) (S:List ByteArray)
 (hm:a.eval m=.map (YW b)) (oC:sS P k e w b n S) (hn:n<maxLen) (s:ByteArray) (hx:a.eval x=.string s) (hv:a.eval v=.bool YY) (hs:s.size<=maxLen)
 (hK:∀w',sS P k e w' b (n+1) (S++[s])->w.grownBy w' (YW b)->wpList P ops Q rest (a.put o.dst Y3) w'):
 wpList P ops Q (o::rest) a w:=by
 refine wpList_plain hg λK' hK'=>?_
 obtain⟨D,h1,h2,h3⟩:=oC;obtain⟨w',kv,r1,r2⟩:=h1.update (string_keyed hk) ht hn (keyOf_string_mk hk hs) (plainElem_bool (H:=Unit) he YY);unfold Oper.wp;simp[execOp,hop,hm,hx,hv,kv,Result.andThen];refine hK' _ _ (hK w' ⟨_,r1,h2.put _ _,λs'=>?_⟩ r2)
 by_cases e:s'=s
 ·subst e
  rw[atKey_put_same h2 (by simp[WideAt.IsKeyLit])]
  rw[Ja];simp
 ·rw[atKey_put_other (by intro h;simp at h;exact e (by obtain⟨⟨x⟩⟩:=s';simp_all)),h3 s',Ja,Yg (λh=>e h.symm),Bool.or_false]
end
end Go.Proofs.YtdilaemengjipaaGreatDoor
namespace Go.Proofs.YtdilaemengjipaaGreatDoor
set_option maxRecDepth 10000
open Go.RowKit
def DM(xs:List ByteArray):List ByteArray:=((xs.map λb:ByteArray=>b.data.toList).mergeSort λx y=>Y0 (x<=y)).map λl=>⟨l.toArray⟩
theorem Kv(xs:List ByteArray):(DM xs).length=xs.length:=by simp[DM]
end Go.Proofs.YtdilaemengjipaaGreatDoor
namespace Go.Proofs.YtdilaemengjipaaGreatDoor
set_option maxRecDepth 10000
open Go.RowKit Go.Maps Go.WideMaps Go.Sort
variable {i:Nat}{x:bP}
instance :eZ bP where
 cells x:=[.string x.ar,.string x.aY,I x.start,I x.nd,I x.vt,I x.jk]
 k:=6
 len _:=rfl
 pos:=by decide
 one:=by simp[Value.oneCell',I]
theorem Rd.bH{w:World}{B:Nat}{A:Option Addr}{xs:List bP}(h:Rd w B A xs)(hx:xs[i]?=YW x):
 ∃b off,A=YW ⟨b,off,YX⟩/\b<B/\w.cell? ⟨b,off+i*6,YX⟩=YW (.string x.ar)/\w.cell? ⟨b,off+i*6+1,YX⟩=YW (.string x.aY)/\w.cell? ⟨b,off+i*6+2,YX⟩=YW (I x.start)/\w.cell? ⟨b,off+i*6+3,YX⟩=YW (I x.nd)/\w.cell? ⟨b,off+i*6+4,YX⟩=YW (I x.vt)/\w.cell? ⟨b,off+i*6+5,YX⟩=YW (I x.jk):=by
 obtain⟨b,off,e,hb,hc⟩:=h.aQ hx;exact⟨b,off,e,hb,hc 0 _ rfl,hc 1 _ rfl,hc 2 _ rfl,hc 3 _ rfl,hc 4 _ rfl,hc 5 _ rfl⟩
theorem SN:(prog.info? 9).map (λi=>(i.zero,i.size,i.bytes))=YW (YW (Value.string ⟨#[]⟩),1,16):=by kernel_rfl
theorem F3:Q3 prog 114 9 (eZ.k ByteArray) 16:=Q3.mk' Tryz.underlying114 SN rfl
theorem qo(w:World):(zeroValue 4).run prog w=.ok (.bool YZ) w:=by kernel_rfl
def tx(aA:List bP)(i:Nat):List ByteArray:=(aA.take i).foldl (λout l=>dd (dd out l.ar) l.aY) []
theorem Tn{aA:List bP}(hx:aA[i]?=YW x):tx aA (i+1)=dd (dd (tx aA i) x.ar) x.aY:=by
 unfold tx;rw[Lt hx]
theorem RX(out:List ByteArray)(s:ByteArray):(dd out s).length<=out.length+1:=by unfold dd;split<;>simp
theorem NL(aA:List bP)(i:Nat):(tx aA i).length<=2*i:=by
 have h:∀(b:List bP) (out:List ByteArray),(b.foldl (λout l=>dd (dd out l.ar) l.aY) out).length<=out.length+2*b.length:=by
  intro b
  induction b with
  |nil=>intro out;simp
  |cons x b ih=>
   intro out;have h1:=ih (dd (dd out x.ar) x.aY);have h2:=RX (dd out x.ar) x.aY;have h3:=RX out x.ar;simp only[Wq,V0];omega
 have h1:=h (aA.take i) [];have h2:(aA.take i).length<=i:=List.length_take_le _ _;simp only[List.length_nil]at h1
 unfold tx;omega
theorem Kq(g cp n B:Nat)(zs:List ByteArray)(w:World)(ho:Own w B 9 (.slice (YW ⟨g,0,YX⟩) n cp) zs)(hl:n=zs.length)(hn:n<=4194304):
 Calls prog 156 #[.slice (YW ⟨g,0,YX⟩) n cp] w λe w'=>e=.returned (.tuple #[])/\Own w' B 9 (.slice (YW ⟨g,0,YX⟩) n cp) (DM zs)/\w.grownBy w' (YW g):=by
 subst hl
 rcases ho.2 with⟨h0,_⟩ |⟨g',ZgD,cur,hv,hB,hg,xi,KP,so,ht⟩
 ·cases h0
 ·obtain⟨rfl,rfl⟩:g=g'/\cp=ZgD:=by simpa using hv
  have hss:(zs.map λb:ByteArray=>b.data.toList).length=zs.length:=by simp
  have Hq:cur.toList.take (zs.map λb:ByteArray=>b.data.toList).length=(zs.map λb:ByteArray=>b.data.toList).map encStr:=by
   have:=ht;rw[show eZ.k ByteArray=1 from rfl,Nat.mul_one,zC]at this
   rw[hss,this,List.map_map];apply List.map_congr_left;intro b _;rfl
  have hH:=holds_of_block hg Hq;have key:=Tryz.sort_Strings g 0 cp _ w hH (Array.getElem?_eq_some_iff.1 hg).1 (by rw[hss];omega)
  rw[hss]at key
  refine key.mono ?_;rintro e w' ⟨rfl,m,os,rfl⟩;have hs:=ownsRow_sorted (n:=m) (os:=os) (ss:=zs.map λb:ByteArray=>b.data.toList) (ts:=(zs.map λb:ByteArray=>b.data.toList).mergeSort λx y=>Y0 (x<=y)) Yq hB hg (by simpa using xi) KP so
  refine⟨rfl,?_,grownBy_sorted _⟩;unfold Own;rw[Kv,zC];rw[hss]at hs
  have e2:(DM zs).map Value.string=((zs.map λb:ByteArray=>b.data.toList).mergeSort λx y=>Y0 (x<=y)).map encStr:=by
   unfold DM;rw[List.map_map];rfl
  rw[e2];exact hs
set_option maxRecDepth 100000 in
theorem JY(A:Option Addr)(aA:List bP)(n c:Nat)(v2 v3:Value)(w:World)(hr:Rd w w.heap.size A aA)(hl:n=aA.length)(hc:aA.length<=c)(hn:n<=1048576)(hs:∀l∈aA,l.ar.size<=maxLen/\l.aY.size<=maxLen):
 Calls prog 89 #[.agg #[.slice A n c,v2,v3]] w λe w'=>∃v,e=.returned v/\Own w' w.heap.size 9 v (DM (tx aA aA.length))/\Up w w':=by
 subst hl;have hmm:=@run_makeMap prog
 go_enter func89,ntmps89
 go_wp2
 go_loopw [4,14] (λv i wr=>∃j g cp:Nat,j<=aA.length/\i=Y1 Y2 j/\v=.slice (YW ⟨g,0,YX⟩) (tx aA j).length cp/\Own wr (w.heap.size+2) 9 (.slice (YW ⟨g,0,YX⟩) (tx aA j).length cp) (tx aA j)/\sS prog 9 4 wr (w.heap.size+1) (2*j) (tx aA j)/\Up w wr) (λ_ i _=>aA.length-(intOf i).toNat)
 case atStart=>exact⟨0,w.heap.size+1+1,0,Yn,rfl,rfl,by have h_:=Own.empty (α:=ByteArray) ((w.alloc (.cells #[.slice A aA.length c,v2,v3] 27)).alloc (.map #[] 0)) (w.heap.size+2) 9 0 #[] Yq YF rfl;simpa[tx]using h_,by have h_:=(sS.bg (P:=prog) (k:=9) (e:=4) (w.alloc (.cells #[.slice A aA.length c,v2,v3] 27))).alloc (.cells #[] 9);simpa[tx]using h_,by(repeat(first|exact Up.rfl' _|(refine Up.al _ ?_) |(refine Up.dr _ ?_) |(refine Up.rR ?_) |(refine Up.sc ?_ Yt _) |(refine Up.step Yz ?_)))⟩
 case round=>
  obtain⟨i,g3,c3',hi,rfl,rfl,ho,zK,hb⟩:=hrel
  by_cases bX:i<aA.length
  ·obtain⟨x,hx⟩:=O8 bX
   obtain⟨b,off,rfl,hbb,c0,c1,c2,c3,c4,c5⟩:=(hr.below hb).bH hx;have hlen:=NL aA i;obtain⟨CR,CS⟩:=hs x (List.mem_of_getElem? hx);have u9:=World.ownsRow.lt ho g3 rfl;have HO:=Lib.hid ho;have HS:=Lib.hid zK;clear ho zK
   go_wp2_with fail
   generalize hwb:(wr.alloc _).alloc _=wb;have d0:wb.cell? ⟨wr.heap.size+1,0,YX⟩=YW (.string x.ar):=by rw[<-hwb];simp[go_sem]
   have d1:wb.cell? ⟨wr.heap.size+1,1,YX⟩=YW (.string x.aY):=by rw[<-hwb];simp[go_sem]
   have hub:Up wr wb:=by rw[<-hwb];(repeat(first|exact Up.rfl' _|(refine Up.al _ ?_) |(refine Up.dr _ ?_) |(refine Up.rR ?_) |(refine Up.sc ?_ Yt _) |(refine Up.step Yz ?_)))
   have uV:wr.heap.size+2<=wb.heap.size:=by rw[<-hwb];simp
   have Bq:Hid (sS prog 9 4 wb (w.heap.size+1) (2*i) (tx aA i)):=Lib.hid (by rw[<-hwb];exact(HS.out.alloc _).alloc _)
   have HO0:=Lib.hid (HO.out.up hub);have Pe:Up w wb:=Up.step hub hb;clear hwb c0 c1 c2 c3 c4 c5 HS HO;have hw0:=hb.size;have Pq:=Tn hx;have IV:=Pe
   cases h1:QW (tx aA i) x.ar with
   |false=>
    cases h2:QW (tx aA i++[x.ar]) x.aY with
    |false=>
     refine wp_loop_rounds 3 ?_
     iterate 3 (rw[rounds_succ];go_wp2_with (first|(at_builtin;(have Gf:=HP2.out);go_loud (refine kt F3 rfl (.tmp 34) (.tmp 36) rfl (base:=w.heap.size+2) (ys:=(tx aA i++[x.ar])) (xs:=[x.aY]) YQ (Gf.up Yo) 1 YQ rfl (Rd.NQ _ _ (x.aY) _ Yq) Yw YH Yw ?_);intro v2 w2 CQ sF _ hu_;go_loud (have KM:=Lib.hid ((HT2.out.alloc _).kept sF YE);have Hp:Up w w2:=Below.grown (Up.al _ QS) sF Yw (λk e=>by have h_:=World.ownsRow.lt Gf _ e;omega);have Zhv:w2a.heap.size+1<=w2.heap.size:=YI;have HO2:=Lib.hid CQ);clear CQ Gf sF hu_ HT2 HP2) |(at_mapUpdate;(have h_:=UG.out);go_loud (refine oB _ rfl _ _ _ 213 rfl 9 4 Tryz.underlying9 Tryz.underlying213 Tryz.underlying4 (w.heap.size+1) (2*i+1) (tx aA i++[x.ar]) rfl UG.out YF _ rfl rfl CS ?_);intro w2a SH sF;go_loud (have HT2:=Lib.hid SH;clear SH;have HP2:=Lib.hid (HO1.out.grown sF (.inr (by intro hh;have h_:=World.ownsRow.lt HO1.out _ hh;omega)));have QS:Up w w2a:=Below.grown CL sF CL.size (λk e=>by cases e;omega);have ER:=sF.size;have hp2:=Wr CL.size sF.size);clear sF) |(at_lookup;have h_:=UG.out;(refine gz _ rfl _ _ 213 rfl 9 4 Tryz.underlying9 Tryz.underlying213 Tryz.underlying4 qo (w.heap.size+1) (2*i+1) (tx aA i++[x.ar]) rfl UG.out _ rfl CS _ h2 ?_)) |(at_builtin;(have Gf:=HP1.out);go_loud (refine kt F3 rfl (.tmp 34) (.tmp 36) rfl (base:=w.heap.size+2) (ys:=(tx aA i)) (xs:=[x.ar]) YQ (Gf.up Yo) 1 YQ rfl (Rd.NQ _ _ (x.ar) _ Yq) Yw YH Yw ?_);intro v1 w1 LB sF _ hu_;go_loud (have UG:=Lib.hid ((HT1.out.alloc _).kept sF YE);have CL:Up w w1:=Below.grown (Up.al _ Pg) sF Yw (λk e=>by have h_:=World.ownsRow.lt Gf _ e;omega);have d2:=(uD sF Yw YO).trans (M4 dz1);have Zhu:w1a.heap.size+1<=w1.heap.size:=YI;have HO1:=Lib.hid LB);clear LB Gf sF hu_ HT1 HP1) |(at_mapUpdate;(have h_:=Bq.out);go_loud (refine oB _ rfl _ _ _ 213 rfl 9 4 Tryz.underlying9 Tryz.underlying213 Tryz.underlying4 (w.heap.size+1) (2*i) (tx aA i) rfl Bq.out YF _ rfl rfl CR ?_);intro w1a SH sF;go_loud (have HT1:=Lib.hid SH;clear SH;have HP1:=Lib.hid (HO0.out.grown sF (.inr YG));have Pg:Up w w1a:=Below.grown IV sF IV.size (λk e=>by cases e;omega);have KT:=sF.size;have dz1:=(uD sF Yn (by intro hh;injection hh with hh;omega)).trans d1;have hp1:=Wr IV.size sF.size);clear sF) |(at_lookup;have h_:=Bq.out;(refine gz _ rfl _ _ 213 rfl 9 4 Tryz.underlying9 Tryz.underlying213 Tryz.underlying4 qo (w.heap.size+1) (2*i) (tx aA i) rfl Bq.out _ rfl CR _ h1 ?_))))
     have r9:tx aA (i+1)=(tx aA i++[x.ar]++[x.aY]):=by rw[Pq];simp[dd,h1,h2]
     have hoF:=HO2.out;obtain⟨g4,c4,hv4,_⟩:=World.ownsRow.form hoF Yq;exact⟨⟨i+1,g4,c4,Yn,by go_num,by rw[r9];exact hv4,by rw[r9,<-hv4];exact hoF,by rw[r9];exact KM.out.mono Yn,Hp⟩,by simp[intOf];omega⟩
    |true=>
     refine wp_loop_rounds 3 ?_
     iterate 3 (rw[rounds_succ];go_wp2_with (first|(at_lookup;have h_:=UG.out;(refine gz _ rfl _ _ 213 rfl 9 4 Tryz.underlying9 Tryz.underlying213 Tryz.underlying4 qo (w.heap.size+1) (2*i+1) (tx aA i++[x.ar]) rfl UG.out _ rfl CS _ h2 ?_)) |(at_builtin;(have Gf:=HP1.out);go_loud (refine kt F3 rfl (.tmp 34) (.tmp 36) rfl (base:=w.heap.size+2) (ys:=(tx aA i)) (xs:=[x.ar]) YQ (Gf.up Yo) 1 YQ rfl (Rd.NQ _ _ (x.ar) _ Yq) Yw YH Yw ?_);intro v1 w1 LB sF _ hu_;go_loud (have UG:=Lib.hid ((HT1.out.alloc _).kept sF YE);have CL:Up w w1:=Below.grown (Up.al _ Pg) sF Yw (λk e=>by have h_:=World.ownsRow.lt Gf _ e;omega);have d2:=(uD sF Yw YO).trans (M4 dz1);have Zhu:w1a.heap.size+1<=w1.heap.size:=YI;have HO1:=Lib.hid LB);clear LB Gf sF hu_ HT1 HP1) |(at_mapUpdate;(have h_:=Bq.out);go_loud (refine oB _ rfl _ _ _ 213 rfl 9 4 Tryz.underlying9 Tryz.underlying213 Tryz.underlying4 (w.heap.size+1) (2*i) (tx aA i) rfl Bq.out YF _ rfl rfl CR ?_);intro w1a SH sF;go_loud (have HT1:=Lib.hid SH;clear SH;have HP1:=Lib.hid (HO0.out.grown sF (.inr YG));have Pg:Up w w1a:=Below.grown IV sF IV.size (λk e=>by cases e;omega);have KT:=sF.size;have dz1:=(uD sF Yn (by intro hh;injection hh with hh;omega)).trans d1;have hp1:=Wr IV.size sF.size);clear sF) |(at_lookup;have h_:=Bq.out;(refine gz _ rfl _ _ 213 rfl 9 4 Tryz.underlying9 Tryz.underlying213 Tryz.underlying4 qo (w.heap.size+1) (2*i) (tx aA i) rfl Bq.out _ rfl CR _ h1 ?_))))
     have r9:tx aA (i+1)=(tx aA i++[x.ar]):=by rw[Pq];simp[dd,h1,h2]
     have hoF:=HO1.out;obtain⟨g4,c4,hv4,_⟩:=World.ownsRow.form hoF Yq;exact⟨⟨i+1,g4,c4,Yn,by go_num,by rw[r9];exact hv4,by rw[r9,<-hv4];exact hoF,by rw[r9];exact UG.out.mono Yn,CL⟩,by simp[intOf];omega⟩
   |true=>
    cases h2:QW (tx aA i) x.aY with
    |false=>
     refine wp_loop_rounds 3 ?_
     iterate 3 (rw[rounds_succ];go_wp2_with (first|(at_lookup;have h_:=Bq.out;(refine gz _ rfl _ _ 213 rfl 9 4 Tryz.underlying9 Tryz.underlying213 Tryz.underlying4 qo (w.heap.size+1) (2*i) (tx aA i) rfl Bq.out _ rfl CR _ h1 ?_)) |(at_lookup;have h_:=Bq.out;(refine gz _ rfl _ _ 213 rfl 9 4 Tryz.underlying9 Tryz.underlying213 Tryz.underlying4 qo (w.heap.size+1) (2*i) (tx aA i) rfl Bq.out _ rfl CS _ h2 ?_)) |(at_mapUpdate;(have h_:=Bq.out);go_loud (refine oB _ rfl _ _ _ 213 rfl 9 4 Tryz.underlying9 Tryz.underlying213 Tryz.underlying4 (w.heap.size+1) (2*i) (tx aA i) rfl Bq.out YF _ rfl rfl CS ?_);intro w2a SH sF;go_loud (have HT2:=Lib.hid SH;clear SH;have HP2:=Lib.hid (HO0.out.grown sF (.inr YG));have QS:Up w w2a:=Below.grown IV sF IV.size (λk e=>by cases e;omega);have ER:=sF.size;have hp2:=Wr IV.size sF.size);clear sF) |(at_builtin;(have Gf:=HP2.out);go_loud (refine kt F3 rfl (.tmp 34) (.tmp 36) rfl (base:=w.heap.size+2) (ys:=(tx aA i)) (xs:=[x.aY]) YQ (Gf.up Yo) 1 YQ rfl (Rd.NQ _ _ (x.aY) _ Yq) Yw YH Yw ?_);intro v2 w2 CQ sF _ hu_;go_loud (have KM:=Lib.hid ((HT2.out.alloc _).kept sF YE);have Hp:Up w w2:=Below.grown (Up.al _ QS) sF Yw (λk e=>by have h_:=World.ownsRow.lt Gf _ e;omega);have Zhv:w2a.heap.size+1<=w2.heap.size:=YI;have HO2:=Lib.hid CQ);clear CQ Gf sF hu_ HT2 HP2)))
     have r9:tx aA (i+1)=(tx aA i++[x.aY]):=by rw[Pq];simp[dd,h1,h2]
     have hoF:=HO2.out;obtain⟨g4,c4,hv4,_⟩:=World.ownsRow.form hoF Yq;exact⟨⟨i+1,g4,c4,Yn,by go_num,by rw[r9];exact hv4,by rw[r9,<-hv4];exact hoF,by rw[r9];exact KM.out.mono Yn,Hp⟩,by simp[intOf];omega⟩
    |true=>
     refine wp_loop_rounds 3 ?_
     iterate 3 (rw[rounds_succ];go_wp2_with (first|(at_lookup;have h_:=Bq.out;(refine gz _ rfl _ _ 213 rfl 9 4 Tryz.underlying9 Tryz.underlying213 Tryz.underlying4 qo (w.heap.size+1) (2*i) (tx aA i) rfl Bq.out _ rfl CR _ h1 ?_)) |(at_lookup;have h_:=Bq.out;(refine gz _ rfl _ _ 213 rfl 9 4 Tryz.underlying9 Tryz.underlying213 Tryz.underlying4 qo (w.heap.size+1) (2*i) (tx aA i) rfl Bq.out _ rfl CS _ h2 ?_))))
     have r9:tx aA (i+1)=(tx aA i):=by rw[Pq];simp[dd,h1,h2]
     exact⟨⟨i+1,g3,c3',Yn,by go_num,by rw[r9],by rw[r9];exact HO0.out,by rw[r9];exact Bq.out.mono Yn,IV⟩,by simp[intOf];omega⟩
  ·obtain rfl:i=aA.length:=Yn
   have hlen:=NL aA aA.length
   go_wp2_with fail
   refine(Kq g3 c3' _ _ (tx aA aA.length) _ ho rfl Yn).mono ?_;rintro e w1 ⟨rfl,LB,hg1⟩;have uW:Up w w1:=Below.grown hb hg1 hb.size (λk e=>by cases e;have h_:=World.ownsRow.lt ho g3 rfl;omega)
   go_wp2_with fail
   go_ret
   exact⟨_,rfl,by simpa[Kv]using LB.more Yn,uW⟩
end Go.Proofs.YtdilaemengjipaaGreatDoor
namespace Go.Proofs.YtdilaemengjipaaGreatDoor
set_option maxRecDepth 10000
open Go.RowKit
variable {i:Nat}
theorem PR(n:ah):tx n.aA n.aA.length=(iL n).foldl dd []:=by
 have h:∀(l:List bP) (acc:List ByteArray),l.foldl (λout l=>dd (dd out l.ar) l.aY) acc=(l.flatMap λl=>[l.ar,l.aY]).foldl dd acc:=by
  intro l
  induction l with
  |nil=>intro acc;rfl
  |cons x l ih=>intro acc;simp only[Wq,List.flatMap_cons,List.foldl_append,List.foldl_nil,ih]
 unfold tx iL;rw[List.take_length];exact h _ _
def dx(n:ah):Option (List ByteArray):=
 if n.aA.length<=1048576/\(n.aA.all λl=>Y0 (l.ar.size<=maxLen/\l.aY.size<=maxLen))=YY then YW (DM ((iL n).foldl dd []))else YX
theorem zX(n:ah){r:(List ByteArray)}(H:dx n=YW r):fa prog 89 [.ag (bB n)] [] (.ms 0) [YW ⟨.of 9,1,r.map iU⟩]:=by
 unfold dx at H
 split at H
 case isFalse=>cases H
 rename_i hok;obtain⟨hn,hs⟩:=hok;obtain rfl:=VX H;have hs':∀l∈n.aA,l.ar.size<=maxLen/\l.aY.size<=maxLen:=λl hl=>Yh (List.all_eq_true.1 hs l hl)
 intro S β w vs ω hk hl ha;obtain⟨x,hx0,hr⟩:=ha 0 _ rfl;have hv:vs=#[x]:=by
  have h1:vs.size=1:=hl;apply Array.ext (by simp[h1])
  intro i h2 h3;have:i=0:=Yn;subst this;have:=(Array.getElem?_eq_some_iff.1 hx0).2
  simpa using this
 subst hv;obtain⟨us,rfl,hul,uW,hur⟩:=hr.qx;have Zdd:us.size=3:=hul;have h0:us[0]?=YW us[0]:=Array.getElem?_eq_getElem Yn;have hus:us=#[us[0],us[1],us[2]]:=by
  apply Array.ext (by simp[Zdd])
  intro i h2 h3
  match i,h2 with
  |0,_=>rfl
  |1,_=>rfl
  |2,_=>rfl
  |i+3,h2=>omega
 have hr0:=hur 0 (.sl (n.aA.map bo)) _ rfl h0;have vA:∃A c,us[0]=.slice A n.aA.length c/\n.aA.length<=c/\Rd w w.heap.size A n.aA:=by
  cases hr0 with
  |c h=>
   generalize hq:PV.sl (n.aA.map bo)=q at h
   generalize us[0]=y at h
   cases h with
   |v x h=>cases hq
   |ud=>cases hq
   |un=>cases hq
   |rp=>cases hq
   |fn=>cases hq
   |nil A c=>
    have:n.aA=[]:=by simpa using hq
    exact⟨A,c,by rw[this];rfl,by rw[this];simp,by rw[this];exact Rd.ZaL⟩
   |sl es b off k c u hS hkp xi hm xh BA h1 hrr=>
    obtain rfl:n.aA.map bo=es:=by simpa using hq
    refine⟨_,c,by simp,by simpa using xi,λgZ=>⟨b,off,rfl,hk.sz b hS,λj u' I6=>?_⟩⟩
    have ib:0<n.aA.length:=List.length_pos_iff.2 gZ;have hk6:k=6:=(xh 0 (bo n.aA[0]) (by simp[ib])).symm
    subst hk6;have hj:=(List.getElem?_eq_some_iff.1 I6).1;rw[qA]at hj
    have hj6:j<n.aA.length*6:=hj;have hi:j / 6<n.aA.length:=Yn;have hy:n.aA[j / 6]?=YW n.aA[j / 6]:=List.getElem?_eq_getElem hi;have hjj:j=(j / 6)*6+j % 6:=Yn;have hm6:j % 6<6:=Nat.mod_lt _ Yy;have hp:∃p u'',(bo n.aA[j / 6])[j % 6]?=YW p/\(eZ.cells n.aA[j / 6])[j % 6]?=YW u''/\∀z,eI w S p z->z=u'':=by
     generalize n.aA[j / 6]=y;generalize j % 6=m at hm6
     match m,hm6 with
     |0,_=>exact⟨_,_,rfl,rfl,λz hz=>by cases hz;rfl⟩
     |1,_=>exact⟨_,_,rfl,rfl,λz hz=>by cases hz;rfl⟩
     |2,_=>exact⟨_,_,rfl,rfl,λz hz=>by cases hz;rfl⟩
     |3,_=>exact⟨_,_,rfl,rfl,λz hz=>by cases hz;rfl⟩
     |4,_=>exact⟨_,_,rfl,rfl,λz hz=>by cases hz;rfl⟩
     |5,_=>exact⟨_,_,rfl,rfl,λz hz=>by cases hz;rfl⟩
    obtain⟨p,u'',hp1,hp2,hp3⟩:=hp;have hf:=uz hy hp2;rw[show eZ.k bP=6 from rfl,<-hjj]at hf
    obtain rfl:u''=u':=VX (hf.symm.trans I6);have e1:(n.aA.map bo)[j / 6]?=YW (bo n.aA[j / 6]):=by simp[hi]
    have hc:=BA (j / 6) _ (j % 6) p e1 hp1;have hz:=hp3 _ (hrr (j / 6) _ (j % 6) p e1 hp1);rw[hz]at hc
    rw[show off+j=off+j / 6*6+j % 6 by omega]
    exact hc
 obtain⟨A,c,hA,Ze0,UN⟩:=vA;rw[hus,hA];refine(JY A n.aA _ c _ _ w UN rfl Ze0 hn hs').mono ?_;rintro e w' ⟨v,rfl,ho,hu⟩;rw[PR]at ho
 obtain⟨E',h1,h2,h3,h4,h5⟩:=wA (c:=iU) hk ho hu (λx=>⟨rfl,λj p hj=>by
  cases j with
  |zero=>obtain rfl:vs x=p:=by simpa using hj
         exact⟨_,rfl,rfl,λw E=>.c (.v _ rfl)⟩
  |succ j=>simp[iU]at hj⟩)
 exact⟨v,E',rfl,h1,h2,h3,h4,h5⟩
instance (n:ah):CT prog (dx n):=⟨89,[.ag (bB n)],[],λr=>.ms 0,λr=>[YW ⟨.of 9,1,r.map iU⟩],zX n⟩
def rL(l:List Int)(s0:Int):Option (Int⊕(Unit⊕Bool)):=
 cond (Y0 (s0<(l.length:Int)))
 ((aB l s0).bind λy1=>
 (aX y1 1 2000).bind λy2=>
 cond (!y2)
 (YW (.inr (.inr YZ)))
 (YW (.inl (aM (s0+1)))))
 (YW (.inr (.inl ())))
instance (l:List Int):bp (rL l):=⟨λs0=>(.sl (l.map aG)::(U 4 (.sl (l.map aG)::vi (l.length:Int)::vi s0::(U 10 [])))),λs0=>[]⟩
def jH(l:List Int):Option Bool:=
 (aE (rL l) NN 0).bind (bh (λo0=>
 YW (Y0 ((l.length:Int)=3))) (λr=>YW r))
instance (l:List Int):CT prog (jH l):=⟨135,[.sl (l.map aG)],[],λr=>vb r,λr=>[],cw (jH.eq_1 ..) func135 ntmps135 results135⟩
def oI(bE:List Int):Option Int:=
 (jH bE).bind λy1=>
 cond (!y1)
 (YW 0)
 ((mJ bE).bind λy2=>
 (aB y2 0).bind λy3=>
 (aB y2 1).bind λy4=>
 (aB y2 2).bind λy5=>
 YW (aM ((aM (y3+(aM (2*y4))))+(aM (2*y5)))))
instance (bE:List Int):CT prog (oI bE):=⟨136,[.sl (bE.map aG)],[],λr=>vi r,λr=>[],cw (oI.eq_1 ..) func136 ntmps136 results136⟩
def ju(l:bl):Option Bool:=
 (aX l.aw 1 3).bind λy1=>
 cond y1
 ((aX l.bO 0 999999999).bind λy2=>
 cond y2
 ((dT l.aY).bind λy3=>
 YW y3)
 (YW YZ))
 (YW YZ)
instance (l:bl):CT prog (ju l):=⟨134,[.ag (mC l)],[],λr=>vb r,λr=>[],cw (ju.eq_1 ..) func134 ntmps134 results134⟩
def gE(p:aL):Option Bool:=
 (ju p.label).bind λy1=>
 cond y1
 ((dT p.ar).bind λy2=>
 cond y2
 (cond (!decide (p.ar=p.label.aY))
 ((aX p.ab 1 30000).bind λy3=>
 cond y3
 ((jH p.bE).bind λy4=>
 cond y4
 ((oI p.bE).bind λy5=>
 cond (Y0 (y5<=3600))
 ((aX p.value 0 500000).bind λy6=>
 YW y6)
 (YW YZ))
 (YW YZ))
 (YW YZ))
 (YW YZ))
 (YW YZ))
 (YW YZ)
instance (p:aL):CT prog (gE p):=⟨71,[.ag (bA p)],[],λr=>vb r,λr=>[],cw (gE.eq_1 ..) func71 ntmps71 results71⟩
def iB(a:List Int)(b:List Int)(s0:Int):Option (Int⊕(Unit⊕Bool)):=
 cond (Y0 (s0<(a.length:Int)))
 ((aB a s0).bind λy1=>
 (aB b s0).bind λy2=>
 cond (!decide (y1=y2))
 (YW (.inr (.inr YZ)))
 (YW (.inl (aM (s0+1)))))
 (YW (.inr (.inl ())))
instance (a:List Int)(b:List Int):bp (iB a b):=⟨λs0=>(.sl (a.map aG)::.sl (b.map aG)::(U 10 (vi (a.length:Int)::vi s0::(U 12 [])))),λs0=>[]⟩
def fk(a:List Int)(b:List Int):Option Bool:=
 cond (!decide ((a.length:Int)=(b.length:Int)))
 (YW YZ)
 ((aE (iB a b) NN 0).bind (bh (λo0=>
 YW YY) (λr=>YW r)))
instance (a:List Int)(b:List Int):CT prog (fk a b):=⟨34,[.sl (a.map aG),.sl (b.map aG)],[],λr=>vb r,λr=>[],λH=>by replace H:=H0 H;unfold fk at H;exact js func34 rfl ntmps34 results34 λQ hQ IP=>KJ⟩
def iX(a:aL)(b:aL):Option Bool:=
 cond (Y0 (a.label=b.label))
 (cond (Y0 (a.ar=b.ar))
 (cond (Y0 (a.ab=b.ab))
 ((fk a.bE b.bE).bind λy1=>
 cond y1
 (YW (Y0 (a.value=b.value)))
 (YW YZ))
 (YW YZ))
 (YW YZ))
 (YW YZ)
instance (a:aL)(b:aL):CT prog (iX a b):=⟨36,[.ag (bA a),.ag (bA b)],[],λr=>vb r,λr=>[],cw (iX.eq_1 ..) func36 ntmps36 results36⟩
def ly(a:ba)(b:ba):Option Bool:=
 cond (Y0 (a.kind=b.kind))
 ((iX a.aJ b.aJ).bind λy1=>
 cond y1
 (cond (Y0 (a.order=b.order))
 (cond (Y0 (a.bC=b.bC))
 (cond (Y0 (a.bI=b.bI))
 (YW (Y0 (a.bk=b.bk)))
 (YW YZ))
 (YW YZ))
 (YW YZ))
 (YW YZ))
 (YW YZ)
instance (a:ba)(b:ba):CT prog (ly a b):=⟨37,[.ag (cX a),.ag (cX b)],[],λr=>vb r,λr=>[],cw (ly.eq_1 ..) func37 ntmps37 results37⟩
def bT(a:ba):Option Bool:=
 (jn 3 22 (
 cond (Y0 (a.kind=1))
 ((gE a.aJ).bind λy1=>
 YW (.inl (y1,a.aJ.label.aw,a.aJ.label.bO,a.aJ.label.aY,a.aJ.ar,a.aJ.ab,a.aJ.bE,a.aJ.value,0,0,0,0,0)))
 (cond (Y0 (a.kind=2))
 ((aX a.order 1 9999).bind λy2=>
 cond y2
 ((aX a.bC 1 100000).bind λy3=>
 YW (.inl (y3,0,0,⟨#[]⟩,⟨#[]⟩,0,[],0,a.order,a.bC,0,0,0)))
 (YW (.inl (YZ,0,0,⟨#[]⟩,⟨#[]⟩,0,[],0,a.order,a.bC,0,0,0))))
 (cond (Y0 (a.kind=3))
 ((aX a.bI 0 100000).bind λy4=>
 YW (.inl (y4,0,0,⟨#[]⟩,⟨#[]⟩,0,[],0,0,0,a.bI,0,0)))
 (cond (Y0 (a.kind=4))
 ((aX a.bk.bH 0 19).bind λy5=>
 cond y5
 ((aX a.bk.day 0 60).bind λy6=>
 YW (.inl (y6,0,0,⟨#[]⟩,⟨#[]⟩,0,[],0,0,0,0,a.bk.bH,a.bk.day)))
 (YW (.inl (YZ,0,0,⟨#[]⟩,⟨#[]⟩,0,[],0,0,0,0,a.bk.bH,a.bk.day))))
 (cond (Y0 (a.kind=5))
 (YW (.inl (YY,0,0,⟨#[]⟩,⟨#[]⟩,0,[],0,0,0,0,0,0)))
 (cond (Y0 (a.kind=6))
 ((aX a.order 1 9999).bind λy7=>
 YW (.inl (y7,0,0,⟨#[]⟩,⟨#[]⟩,0,[],0,a.order,0,0,0,0)))
 (YW (.inl (YZ,0,0,⟨#[]⟩,⟨#[]⟩,0,[],0,0,0,0,0,0)))))))):Option ((Bool×Int×Int×ByteArray×ByteArray×Int×(List Int)×Int×Int×Int×Int×Int×Int)⊕Empty)) (λz8=>(.un::.be 0 0 0::.un::.be 1 0 0::vb z8.1::(U 68 []))) (λz8=>[YW ⟨.of 48,13,[[vi a.kind,vi a.aJ.label.aw,vi a.aJ.label.bO,vs a.aJ.label.aY,vs a.aJ.ar,vi a.aJ.ab,.sl (a.aJ.bE.map aG),vi a.aJ.value,vi a.order,vi a.bC,vi a.bI,vi a.bk.bH,vi a.bk.day]]⟩,YW ⟨.of 48,13,[[vi a.kind,vi z8.2.1,vi z8.2.2.1,vs z8.2.2.2.1,vs z8.2.2.2.2.1,vi z8.2.2.2.2.2.1,.sl (z8.2.2.2.2.2.2.1.map aG),vi z8.2.2.2.2.2.2.2.1,vi z8.2.2.2.2.2.2.2.2.1,vi z8.2.2.2.2.2.2.2.2.2.1,vi z8.2.2.2.2.2.2.2.2.2.2.1,vi z8.2.2.2.2.2.2.2.2.2.2.2.1,vi z8.2.2.2.2.2.2.2.2.2.2.2.2]]⟩])).bind (bh (λz8=>
 cond z8.1
 ((ly a (⟨a.kind,(⟨(⟨z8.2.1,z8.2.2.1,z8.2.2.2.1⟩:bl),z8.2.2.2.2.1,z8.2.2.2.2.2.1,z8.2.2.2.2.2.2.1,z8.2.2.2.2.2.2.2.1⟩:aL),z8.2.2.2.2.2.2.2.2.1,z8.2.2.2.2.2.2.2.2.2.1,z8.2.2.2.2.2.2.2.2.2.2.1,(⟨z8.2.2.2.2.2.2.2.2.2.2.2.1,z8.2.2.2.2.2.2.2.2.2.2.2.2⟩:av)⟩:ba)).bind λy9=>
 YW y9)
 (YW YZ)) (λr=>r.elim))
instance (a:ba):CT prog (bT a):=⟨26,[.ag (cX a)],[],λr=>vb r,λr=>[],cw (bT.eq_1 ..) func26 ntmps26 results26⟩
def mf(l:List Int)(s0:Int):Option (Int⊕(Unit⊕Bool)):=
 cond (Y0 (s0<(l.length:Int)))
 ((aB l s0).bind λy1=>
 (bb y1 1 2000).bind λy2=>
 cond (!y2)
 (YW (.inr (.inr YZ)))
 (YW (.inl (aM (s0+1)))))
 (YW (.inr (.inl ())))
instance (l:List Int):bp (mf l):=⟨λs0=>(.sl (l.map aG)::.un::.un::vi s0::(U 15 [])),λs0=>[]⟩
def jC(l:List Int):Option Bool:=
 (aE (mf l) NN 0).bind (bh (λo0=>
 YW (Y0 ((l.length:Int)=3))) (λr=>YW r))
instance (l:List Int):CT prog (jC l):=⟨224,[.sl (l.map aG)],[],λr=>vb r,λr=>[],cw (jC.eq_1 ..) func224 ntmps224 results224⟩
def cC(l:bl):Option Bool:=
 (bb l.aw 1 3).bind λy1=>
 cond y1
 ((bb l.bO 0 999999999).bind λy2=>
 cond y2
 ((bV l.aY).bind λy3=>
 YW y3)
 (YW YZ))
 (YW YZ)
instance (l:bl):CT prog (cC l):=⟨223,[.ag (mC l)],[],λr=>vb r,λr=>[],cw (cC.eq_1 ..) func223 ntmps223 results223⟩
def fE(l:bP):Option Bool:=
 (bV l.ar).bind λy1=>
 cond y1
 ((bV l.aY).bind λy2=>
 cond y2
 (cond (!decide (l.ar=l.aY))
 ((bb l.start 0 1439).bind λy3=>
 cond y3
 ((bb l.nd 1 4320).bind λy4=>
 cond y4
 ((bb l.vt 1 127).bind λy5=>
 cond y5
 ((bb l.jk 0 1000000).bind λy6=>
 YW y6)
 (YW YZ))
 (YW YZ))
 (YW YZ))
 (YW YZ))
 (YW YZ))
 (YW YZ)
instance (l:bP):CT prog (fE l):=⟨346,[.ag (bo l)],[],λr=>vb r,λr=>[],cw (fE.eq_1 ..) func346 ntmps346 results346⟩
def bY(n:ah)(s0:Int):Option (Int⊕(Unit⊕Bool)):=
 cond (Y0 (s0<(n.aA.length:Int)))
 ((aB n.aA s0).bind λy1=>
 (fE y1).bind λy2=>
 cond (!y2)
 (YW (.inr (.inr YZ)))
 (YW (.inl (aM (s0+1)))))
 (YW (.inr (.inl ())))
instance (n:ah):bp (bY n):=⟨λs0=>(.un::.be 0 0 0::.un::vi s0::(U 62 [])),λs0=>[YW ⟨.of 27,3,[[.sl (n.aA.map bo),.sl (n.off.map aG),vi n.change]]⟩]⟩
def bZ(n:ah)(s1:Int):Option (Int⊕(Unit⊕Bool)):=
 cond (Y0 (s1<(n.off.length:Int)))
 ((aB n.off s1).bind λy3=>
 (bb y3 0 60).bind λy4=>
 cond (!y4)
 (YW (.inr (.inr YZ)))
 (cond (Y0 (0<s1))
 ((aB n.off (aM (s1-1))).bind λy5=>
 (aB n.off s1).bind λy6=>
 cond (Y0 (y6<=y5))
 (YW (.inr (.inr YZ)))
 (YW (.inl (aM (s1+1)))))
 (YW (.inl (aM (s1+1))))))
 (YW (.inr (.inl ())))
instance (n:ah):bp (bZ n):=⟨λs1=>(.un::.be 0 0 0::.un::.un::vi s1::(U 61 [])),λs1=>[YW ⟨.of 27,3,[[.sl (n.aA.map bo),.sl (n.off.map aG),vi n.change]]⟩]⟩
def aW(n:ah):Option Bool:=
 (aE (bY n) NN 0).bind (bh (λo0=>
 (aE (bZ n) NN 0).bind (bh (λo1=>
 cond (Y0 ((n.aA.length:Int)<=20))
 (cond (Y0 ((n.off.length:Int)<=10))
 ((bb n.change 0 240).bind λy7=>
 YW y7)
 (YW YZ))
 (YW YZ)) (λr=>YW r))) (λr=>YW r))
instance (n:ah):CT prog (aW n):=⟨277,[.ag (bB n)],[],λr=>vb r,λr=>[],cw (aW.eq_1 ..) func277 ntmps277 results277⟩
def pV(l:List Int)(x:Int)(s0:Int):Option (Int⊕(Unit⊕Bool)):=
 cond (Y0 (s0<(l.length:Int)))
 ((aB l s0).bind λy1=>
 cond (Y0 (y1=x))
 (YW (.inr (.inr YY)))
 (YW (.inl (aM (s0+1)))))
 (YW (.inr (.inl ())))
instance (l:List Int)(x:Int):bp (pV l x):=⟨λs0=>(.sl (l.map aG)::vi x::(U 3 (vi s0::(U 12 [])))),λs0=>[]⟩
def mc(l:List Int)(x:Int):Option Bool:=
 (aE (pV l x) NN 0).bind (bh (λo0=>
 YW YZ) (λr=>YW r))
instance (l:List Int)(x:Int):CT prog (mc l x):=⟨280,[.sl (l.map aG),vi x],[],λr=>vb r,λr=>[],cw (mc.eq_1 ..) func280 ntmps280 results280⟩
def cJ(n:ah)(bH:Int)(day:Int):Option Bool:=
 (bb bH 0 (aM ((n.aA.length:Int)-1))).bind λy1=>
 cond y1
 ((bb day 0 60).bind λy2=>
 cond y2
 ((aB n.aA bH).bind λy3=>
 (cr (Y0 (0<=(Int.tmod day 7)))).bind λ_=>
 cond (Y0 ((IntKind.i64.wrap (BitVec.ofInt IntKind.i64.bits (Int.fdiv y3.vt (2 ^ (min (Int.toNat (Int.tmod day 7)) IntKind.i64.bits))) &&& BitVec.ofInt IntKind.i64.bits 1).toNat)=1))
 ((mc n.off day).bind λy4=>
 YW (!y4))
 (YW YZ))
 (YW YZ))
 (YW YZ)
instance (n:ah)(bH:Int)(day:Int):CT prog (cJ n bH day):=⟨214,[.ag (bB n),vi bH,vi day],[],λr=>vb r,λr=>[],cw (cJ.eq_1 ..) func214 ntmps214 results214⟩
def kl(n:ah)(bH:Int)(day:Int):Option Bool:=
 (aW n).bind λy1=>
 cond y1
 ((cJ n bH day).bind λy2=>
 YW y2)
 (YW YZ)
instance (n:ah)(bH:Int)(day:Int):CT prog (kl n bH day):=⟨293,[.ag (bB n),vi bH,vi day],[],λr=>vb r,λr=>[],cw (kl.eq_1 ..) func293 ntmps293 results293⟩
def dN(n:ah)(t:av):Option Bool:=
 (kl n t.bH t.day).bind λy1=>
 YW y1
instance (n:ah)(t:av):CT prog (dN n t):=⟨229,[.ag (bB n),.ag (aU t)],[],λr=>vb r,λr=>[],cw (dN.eq_1 ..) func229 ntmps229 results229⟩
def lJ(a:aq)(b:aq):Option Bool:=
 cond (!decide (a.bk.day=b.bk.day))
 (YW (Y0 (a.bk.day<b.bk.day)))
 (cond (!decide (a.bk.bH=b.bk.bH))
 (YW (Y0 (a.bk.bH<b.bk.bH)))
 (YW (Y0 (a.bz<b.bz))))
instance (a:aq)(b:aq):CT prog (lJ a b):=⟨278,[.ag (aC a),.ag (aC b)],[],λr=>vb r,λr=>[],cw (lJ.eq_1 ..) func278 ntmps278 results278⟩
def mZ(w:ax)(o:az):Option ByteArray:=
 cond (Y0 (o.state=2))
 ((aB o.aK o.aO).bind λy1=>
 (aB w.aa.aA y1.bH).bind λy2=>
 YW y2.aY)
 (YW o.place)
instance (w:ax)(o:az):CT prog (mZ w o):=⟨203,[.ag (gK w),.ag (aZ o)],[],λr=>vs r,λr=>[],cw (mZ.eq_1 ..) func203 ntmps203 results203⟩
def fo(x:az):Option Int:=
 cond (Y0 (x.state=2))
 (YW (aM (x.aO+1)))
 (YW x.aO)
instance (x:az):CT prog (fo x):=⟨231,[.ag (aZ x)],[],λr=>vi r,λr=>[],cw (fo.eq_1 ..) func231 ntmps231 results231⟩
def mB(l:List aq)(bz:Int)(t:av)(ab:Int)(s0:Int):Option (Int⊕(Unit⊕Bool)):=
 cond (Y0 (s0<(l.length:Int)))
 ((aB l s0).bind λy1=>
 cond (Y0 (y1=(⟨bz,t,ab⟩:aq)))
 (YW (.inr (.inr YY)))
 (YW (.inl (aM (s0+1)))))
 (YW (.inr (.inl ())))
instance (l:List aq)(bz:Int)(t:av)(ab:Int):bp (mB l bz t ab):=⟨λs0=>(.sl (l.map aC)::vi bz::.un::vi ab::.un::.un::.be 0 0 0::.un::.un::vi s0::(U 15 [])),λs0=>[YW ⟨.of 46,2,[[vi t.bH,vi t.day]]⟩]⟩
def mV(l:List aq)(bz:Int)(t:av)(ab:Int):Option Bool:=
 (aE (mB l bz t ab) NN 0).bind (bh (λo0=>
 YW YZ) (λr=>YW r))
instance (l:List aq)(bz:Int)(t:av)(ab:Int):CT prog (mV l bz t ab):=⟨283,[.sl (l.map aC),vi bz,.ag (aU t),vi ab],[],λr=>vb r,λr=>[],cw (mV.eq_1 ..) func283 ntmps283 results283⟩
def kz(l:List ct)(s0:Int):Option (Int⊕(Unit⊕Bool)):=
 cond (Y0 (s0<(l.length:Int)))
 ((jn 3 6 (
 (aB l s0).bind λy1=>
 (dT y1.first).bind λy2=>
 cond (!y2)
 (YW (.inr YZ))
 ((dT y1.last).bind λy3=>
 cond (!y3)
 (YW (.inr YZ))
 (cond (!MH y1.first y1.last)
 (YW (.inr YZ))
 (cond (Y0 (0<s0))
 ((aB l (aM (s0-1))).bind λy4=>
 cond (MH y1.first y4.last)
 (YW (.inr YZ))
 (YW (.inl ())))
 (YW (.inl ()))))):Option (Unit⊕Bool)) (λz5=>(.sl (l.map cG)::(U 4 (.sl (l.map cG)::vi (l.length:Int)::vi s0::(U 40 []))))) (λz5=>[])).bind (bh (λz5=>
 YW (.inl (aM (s0+1)))) (λr=>YW (.inr (.inr r)))))
 (YW (.inr (.inl ())))
instance (l:List ct):bp (kz l):=⟨λs0=>(.sl (l.map cG)::(U 4 (.sl (l.map cG)::vi (l.length:Int)::vi s0::(U 40 [])))),λs0=>[]⟩
def jM(l:List ct):Option Bool:=
 (aE (kz l) NN 0).bind (bh (λo0=>
 YW (Y0 ((l.length:Int)<=8))) (λr=>YW r))
instance (l:List ct):CT prog (jM l):=⟨39,[.sl (l.map cG)],[],λr=>vb r,λr=>[],cw (jM.eq_1 ..) func39 ntmps39 results39⟩
def o8(l:List ct)(jP:ByteArray)(s0:Int):Option (Int⊕(Unit⊕Int)):=
 cond (Y0 (s0<(l.length:Int)))
 ((jn 5 8 (
 (aB l s0).bind λy3=>
 cond (MH y3.first jP)
 (cond (MH jP y3.last)
 (YW (.inr s0))
 (YW (.inl ())))
 (YW (.inl ())):Option (Unit⊕Int)) (λz4=>(.un::vs jP::(U 13 (.sl (l.map cG)::vi (l.length:Int)::vi s0::(U 16 []))))) (λz4=>[])).bind (bh (λz4=>
 YW (.inl (aM (s0+1)))) (λr=>YW (.inr (.inr r)))))
 (YW (.inr (.inl ())))
instance (l:List ct)(jP:ByteArray):bp (o8 l jP):=⟨λs0=>(.un::vs jP::(U 13 (.sl (l.map cG)::vi (l.length:Int)::vi s0::(U 16 [])))),λs0=>[]⟩
def pE(l:List ct)(jP:ByteArray):Option Int:=
 (jM l).bind λy1=>
 cond (!y1)
 (YW (-1))
 ((dT jP).bind λy2=>
 cond (!y2)
 (YW (-1))
 ((aE (o8 l jP) NN 0).bind (bh (λo0=>
 YW (-1)) (λr=>YW r))))
instance (l:List ct)(jP:ByteArray):CT prog (pE l jP):=⟨95,[.sl (l.map cG),vs jP],[],λr=>vi r,λr=>[],cw (pE.eq_1 ..) func95 ntmps95 results95⟩
def nN(bE:List Int):Option Int:=
 (jH bE).bind λy1=>
 cond (!y1)
 (YW 0)
 ((aB bE 0).bind λy2=>
 (aB bE 1).bind λy3=>
 (aB bE 2).bind λy4=>
 YW (aM ((aM (y2*y3))*y4)))
instance (bE:List Int):CT prog (nN bE):=⟨160,[.sl (bE.map aG)],[],λr=>vi r,λr=>[],cw (nN.eq_1 ..) func160 ntmps160 results160⟩
def iA(p:aL):Option Int:=
 (gE p).bind λy1=>
 cond (!y1)
 (YW 0)
 ((nN p.bE).bind λy2=>
 YW (if(IntKind.i64.wrap (Int.tdiv (aM (y2+4999)) 5000)) > p.ab then(IntKind.i64.wrap (Int.tdiv (aM (y2+4999)) 5000))else p.ab))
instance (p:aL):CT prog (iA p):=⟨96,[.ag (bA p)],[],λr=>vi r,λr=>[],cw (iA.eq_1 ..) func96 ntmps96 results96⟩
def kL(l:List ct)(s0:Int):Option (Int⊕(Unit⊕Bool)):=
 cond (Y0 (s0<(l.length:Int)))
 ((jn 4 3 (
 (aB l s0).bind λy1=>
 (bV y1.first).bind λy2=>
 cond (!y2)
 (YW (.inr YZ))
 ((aB l s0).bind λy3=>
 (bV y3.last).bind λy4=>
 cond (!y4)
 (YW (.inr YZ))
 ((aB l s0).bind λy5=>
 (aB l s0).bind λy6=>
 cond (!MH y5.first y6.last)
 (YW (.inr YZ))
 (cond (Y0 (0<s0))
 ((aB l (aM (s0-1))).bind λy7=>
 (aB l s0).bind λy8=>
 cond (!qU y7.last y8.first)
 (YW (.inr YZ))
 (YW (.inl ())))
 (YW (.inl ()))))):Option (Unit⊕Bool)) (λz9=>(.sl (l.map cG)::.un::.un::vi s0::(U 56 []))) (λz9=>[])).bind (bh (λz9=>
 YW (.inl (aM (s0+1)))) (λr=>YW (.inr (.inr r)))))
 (YW (.inr (.inl ())))
instance (l:List ct):bp (kL l):=⟨λs0=>(.sl (l.map cG)::.un::.un::vi s0::(U 56 [])),λs0=>[]⟩
def jO(l:List ct):Option Bool:=
 (aE (kL l) NN 0).bind (bh (λo0=>
 YW (Y0 ((l.length:Int)<=8))) (λr=>YW r))
instance (l:List ct):CT prog (jO l):=⟨170,[.sl (l.map cG)],[],λr=>vb r,λr=>[],cw (jO.eq_1 ..) func170 ntmps170 results170⟩
def oQ(a:bF)(b:bF):Option Bool:=
 cond (Y0 (a.nG<b.nG))
 (YW YY)
 (cond (Y0 (b.nG=a.nG))
 (cond (Y0 (a.aw<b.aw))
 (YW YY)
 (cond (Y0 (b.aw=a.aw))
 (cond (Y0 (a.oi<b.oi))
 (YW (Y0 (a.mr<=b.mr)))
 (YW YZ))
 (YW YZ)))
 (YW YZ))
instance (a:bF)(b:bF):CT prog (oQ a b):=⟨219,[.ag (cy a),.ag (cy b)],[],λr=>vb r,λr=>[],cw (oQ.eq_1 ..) func219 ntmps219 results219⟩
def kK(l:List bF)(aS:Int)(s0:Int):Option (Int⊕(Unit⊕Bool)):=
 cond (Y0 (s0<(l.length:Int)))
 ((jn 4 3 (
 (aB l s0).bind λy1=>
 cond (Y0 (y1.nG<0))
 (YW (.inr YZ))
 ((aB l s0).bind λy2=>
 cond (Y0 (aS<=y2.nG))
 (YW (.inr YZ))
 ((aB l s0).bind λy3=>
 (bb y3.aw 1 3).bind λy4=>
 cond (!y4)
 (YW (.inr YZ))
 ((aB l s0).bind λy5=>
 (bb y5.oi 1 1000000000).bind λy6=>
 cond (!y6)
 (YW (.inr YZ))
 ((aB l s0).bind λy7=>
 (bb y7.mr 0 100000).bind λy8=>
 cond (!y8)
 (YW (.inr YZ))
 (cond (Y0 (0<s0))
 ((aB l (aM (s0-1))).bind λy9=>
 (aB l s0).bind λeh=>
 (oQ y9 eh).bind λlr=>
 cond (!lr)
 (YW (.inr YZ))
 (YW (.inl ())))
 (YW (.inl ()))))))):Option (Unit⊕Bool)) (λz12=>(.sl (l.map cy)::vi aS::(U 3 (vi s0::(U 68 []))))) (λz12=>[])).bind (bh (λz12=>
 YW (.inl (aM (s0+1)))) (λr=>YW (.inr (.inr r)))))
 (YW (.inr (.inl ())))
instance (l:List bF)(aS:Int):bp (kK l aS):=⟨λs0=>(.sl (l.map cy)::vi aS::(U 3 (vi s0::(U 68 [])))),λs0=>[]⟩
def lD(l:List bF)(aS:Int):Option Bool:=
 (aE (kK l aS) NN 0).bind (bh (λo0=>
 YW (Y0 ((l.length:Int)<=24))) (λr=>YW r))
instance (l:List bF)(aS:Int):CT prog (lD l aS):=⟨171,[.sl (l.map cy),vi aS],[],λr=>vb r,λr=>[],cw (lD.eq_1 ..) func171 ntmps171 results171⟩
def jg(l:List ct)(jP:ByteArray)(s0:Int):Option (Int⊕(Unit⊕Int)):=
 cond (Y0 (s0<(l.length:Int)))
 ((jn 6 5 (
 (aB l s0).bind λy3=>
 cond (MH y3.first jP)
 ((aB l s0).bind λy4=>
 cond (MH jP y4.last)
 (YW (.inr s0))
 (YW (.inl ())))
 (YW (.inl ())):Option (Unit⊕Int)) (λz5=>(.sl (l.map cG)::vs jP::(U 3 (vi s0::(U 31 []))))) (λz5=>[])).bind (bh (λz5=>
 YW (.inl (aM (s0+1)))) (λr=>YW (.inr (.inr r)))))
 (YW (.inr (.inl ())))
instance (l:List ct)(jP:ByteArray):bp (jg l jP):=⟨λs0=>(.sl (l.map cG)::vs jP::(U 3 (vi s0::(U 31 [])))),λs0=>[]⟩
def oa(l:List ct)(jP:ByteArray):Option Int:=
 (jO l).bind λy1=>
 cond (!y1)
 (YW (-1))
 ((bV jP).bind λy2=>
 cond (!y2)
 (YW (-1))
 ((aE (jg l jP) NN 0).bind (bh (λo0=>
 YW (-1)) (λr=>YW r))))
instance (l:List ct)(jP:ByteArray):CT prog (oa l jP):=⟨286,[.sl (l.map cG),vs jP],[],λr=>vi r,λr=>[],cw (oa.eq_1 ..) func286 ntmps286 results286⟩
def lG(bE:List Int):Option Int:=
 (jC bE).bind λy1=>
 cond (!y1)
 (YW 0)
 ((aB bE 0).bind λy2=>
 (aB bE 1).bind λy3=>
 (aB bE 2).bind λy4=>
 YW (aM ((aM (y2*y3))*y4)))
instance (bE:List Int):CT prog (lG bE):=⟨347,[.sl (bE.map aG)],[],λr=>vi r,λr=>[],cw (lG.eq_1 ..) func347 ntmps347 results347⟩
structure Ln where
 o:Int
 k:Int
 a:Int
 t:Int
variable {b:List Ln}{x:Ln}
instance :eZ Ln where
 cells x:=[I x.o,I x.k,I x.a,I x.t]
 k:=4
 len _:=rfl
 pos:=by decide
 one:=by simp[Value.oneCell',I]
instance :Inhabited Ln:=⟨⟨0,0,0,0⟩⟩
def vC(n l h:Int):Bool:=Y0 (l<=n)&&Y0 (n<=h)
def rK(o k a t:Int):Bool:=vC o 1 9999&&vC k 1 3&&vC a 1 100000&&vC t 0 100000
def ZeL(x y:Ln):Bool:=x.o==y.o&&x.k==y.k&&x.a==y.a&&x.t==y.t
theorem R3{x y:Ln}:ZeL x y=YY↔x=y:=by
 cases x;cases y;simp[ZeL,and_assoc]
instance :DecidableEq Ln:=λ_ _=>decidable_of_iff _ R3
def pY(o k:Int)(s:Int)(x:Ln):Int:=if(x.o==o&&x.k==k)=YY then wrap64 (s+x.a)else s
def fF(xs:List Ln)(o k:Int):Int:=xs.foldl (pY o k) 0
def sM(xs:List Int)(j:Nat):Bool:=vC (xs.getD j 0) 0 100&&(Y0 (j=0) ||Y0 (xs.getD (j-1) 0<=xs.getD j 0))
def oT(xs:List Int):Bool:=xS xs.length (sM xs)&&vC xs.length 1 6
theorem P1{xs:List Int}{x:Int}(hx:xs[i]?=YW x)(h:vC x 0 100=YZ):sM xs i=false:=by simp[sM,hx,h]
theorem Md{xs:List Int}{x:Int}(h0:i<=0)(hx:xs[i]?=YW x)(h:vC x 0 100=YY):sM xs i=true:=by
 obtain rfl:i=0:=Yn;simp[sM,hx,h]
theorem Mc{xs:List Int}{x y:Int}(hy:xs[i]?=YW y)(hx:xs[i+1]?=YW x)(h:x<y):sM xs (i+1)=false:=by
 simp[sM,hx,hy];omega
theorem Tu{xs:List Int}{x y:Int}(hy:xs[i]?=YW y)(hx:xs[i+1]?=YW x)(hb:vC x 0 100=YY)(h:¬x<y):sM xs (i+1)=true:=by
 simp[sM,hx,hy,hb];omega
theorem rJ{n l h:Int}(e:vC n l h=YY):l<=n/\n<=h:=by simpa[vC]using e
theorem Dn{xs:List Int}(h:oT xs=YY):1<=xs.length/\xs.length<=6/\∀(i:Nat) (x:Int),xs[i]?=YW x->0<=x/\x<=100:=by
 simp only[oT,Wd]at h
 have h2:=rJ h.2;refine⟨Yn,Yn,λi x hx=>?_⟩
 have h3:=zo.1 h.1 i (PK hx);simp[sM,hx]at h3
 exact rJ h3.1
def Tv(c x:Int):Int:=wrap64 ((wrap64 (c*x)).tdiv 100)
def Dz(oE eJ bQ:Int)(ps:List Int):Bool:=oT ps&&vC oE 0 100000&&vC eJ 0 200000&&vC bQ 0 200000&&!decide (bQ<=eJ)
def qM(eJ bQ:Int)(ps:List Int):Nat:=if(bQ-eJ-1) / 1440<(ps.length:Int)then((bQ-eJ-1) / 1440).toNat else ps.length-1
def uI(oE eJ bQ:Int)(ps:List Int):Int:=if Dz oE eJ bQ ps then Tv oE (ps.getD (qM eJ bQ ps) 0)else 0
def r7(o k:Int)(s:Int)(x:Ln):Int:=if(x.o==o&&x.k==k)=YY then wrap64 (s+1)else s
def x9(xs:List Ln)(o k:Int):Int:=xs.foldl (r7 o k) 0
theorem vo(o k:Int):∀(b:List Ln) (c s:Int),(∀x∈b,1<=x.a/\x.a<=100000)->0<=c->c+b.length<=200->c<=s->s<=100000*c->
 0<=b.foldl (r7 o k) c/\b.foldl (r7 o k) c<=c+b.length/\b.foldl (r7 o k) c<=b.foldl (pY o k) s/\b.foldl (pY o k) s<=100000*b.foldl (r7 o k) c
 | [],c,s,_,h0,hl,h1,h2=>⟨h0,by simp,h1,h2⟩
 |x::b,c,s,ha,h0,hl,h1,h2=>by
  have hx:=ha x Yq;simp only[V0]at hl
  have e1:wrap64 (c+1)=c+1:=IntWalk.wrap64_in _ ⟨Yn,Yn⟩;have e2:wrap64 (s+x.a)=s+x.a:=IntWalk.wrap64_in _ ⟨Yn,Yn⟩
  by_cases h:(x.o==o&&x.k==k)=YY
  ·have r:=vo o k b (c+1) (s+x.a) (λy hy=>ha y Yr) Yn Yn Yn Yn
   simp only[Wq,r7,pY,h,if_true,e1,e2]at r⊢
   grind
  ·have r:=vo o k b c s (λy hy=>ha y Yr) h0 Yn h1 h2
   simp only[Wq,r7,pY,if_neg h]at r⊢
   grind
theorem Na(o k:Int)(ha:∀x∈b,1<=x.a/\x.a<=100000)(hl:b.length<=200):0<=x9 b o k/\x9 b o k<=b.length/\x9 b o k<=fF b o k/\fF b o k<=100000*x9 b o k:=by
 have r:=vo o k b 0 0 ha Yn Yn Yn Yn;refine⟨r.1,by have:=r.2.1;unfold x9;omega,r.2.2.1,r.2.2.2⟩
/-! ### Zd7 -/
def xX(xs:List Ln)(i:Nat)(x:Ln):Bool:=!(rK x.o x.k x.a x.t) ||(Y0 (0<i)&&Y0 (x.t<(xs.getD (i-1) default).t))
def vv(b:List Ln)(x:Ln):Bool:=
 if x.k=1 then !decide (0<fF b x.o 1)
 else if x.k=2 then !decide (fF b x.o 1<wrap64 (fF b x.o 2+x.a))
 else !decide (0<fF b x.o 3)&&(fF b x.o 2==fF b x.o 1)&&!decide (fF b x.o 1<x.a)
def uH(xs:List Ln)(i:Nat):Bool:=!(xX xs i (xs.getD i default))&&vv (xs.take i) (xs.getD i default)
def hZ(xs:List Ln):Bool:=Y0 (xs.length<=200)&&xS xs.length (uH xs)
theorem AO{xs:List Ln}(h:¬xs.length<=200):hZ xs=false:=by simp[hZ,h]
theorem Js{xs:List Ln}(h:xX xs i x=YZ):rK x.o x.k x.a x.t=true:=by
 simp only[xX,Bool.or_eq_false_iff,Bool.not_eq_false']at h;grind
theorem ZeM(hk:x.k=1):vv b x=!decide (0<fF b x.o 1):=by simp[vv,hk]
theorem ZeN(hk:x.k=2):vv b x=!decide (fF b x.o 1<wrap64 (fF b x.o 2+x.a)):=by simp[vv,hk]
theorem ZeO(hk:x.k=3):vv b x=(!decide (0<fF b x.o 3)&&(fF b x.o 2==fF b x.o 1)&&!decide (fF b x.o 1<x.a)):=by simp[vv,hk]
theorem Ev(h:rK x.o x.k x.a x.t=YY):1<=x.a/\x.a<=100000:=by
 simp only[rK,Wd]at h
 exact rJ h.1.2
theorem yY{xs:List Ln}(h:xS i (uH xs)=YY):∀x∈xs.take i,1<=x.a/\x.a<=100000:=by
 intro x hx;obtain⟨j,hj⟩:=List.getElem?_of_mem hx;rw[List.getElem?_take]at hj
 split at hj
 ·rename_i bX
  have h1:=zo.1 h j bX;simp only[uH,List.getD_eq_getElem?_getD,hj,Option.getD_some,Wd,Bool.not_eq_true']at h1
  exact Ev (Js h1.1)
 simp_all
theorem M9{xs:List Ln}(o k:Int)(h:xS i (uH xs)=YY)(hl:i<=200):Y0 (0<x9 (xs.take i) o k)=Y0 (0<fF (xs.take i) o k):=by
 have r:=Na o k (yY h) Yr
 grind
theorem Zaq(h:rK x.o x.k x.a x.t=YY):x.k=1\/x.k=2\/x.k=3:=by
 simp only[rK,Wd]at h
 have:=rJ h.1.1.2;omega
/-! ### MT is Zi1,Ziw,ZeC,ZhP -/
def Dg(xs:List Ln)(o:Int):Int:=if hZ xs then wrap64 (fF xs o 1-fF xs o 2)else 0
theorem RF{xs:List Ln}(o k:Int)(h:hZ xs=YY):Y0 (0<x9 xs o k)=Y0 (0<fF xs o k):=by
 simp only[hZ,Wd,decide_eq_true_eq]at h
 have:=M9 (xs:=xs) (i:=xs.length) o k h.2 h.1
 simp_all
theorem J5{du en:Int}{ps:List Int}(h:oT ps=YY)(he:¬en<=du):qM du en ps<ps.length:=by
 have:=(Dn h).1;unfold qM
 grind
def tW(l:List Int)(n:Int)(s0:Int):Option (Int⊕(Unit⊕Bool)):=
 cond (Y0 (s0<(l.length:Int)))
 ((aB l s0).bind λy1=>
 cond (Y0 (y1=n))
 (YW (.inr (.inr YY)))
 (YW (.inl (aM (s0+1)))))
 (YW (.inr (.inl ())))
instance (l:List Int)(n:Int):bp (tW l n):=⟨λs0=>(.un::vi n::(U 5 (.sl (l.map aG)::vi (l.length:Int)::vi s0::(U 7 [])))),λs0=>[]⟩
def rz(l:List Int)(n:Int):Option Bool:=
 (aE (tW l n) NN 0).bind (bh (λo0=>
 YW YZ) (λr=>YW r))
instance (l:List Int)(n:Int):CT prog (rz l n):=⟨99,[.sl (l.map aG),vi n],[],λr=>vb r,λr=>[],cw (rz.eq_1 ..) func99 ntmps99 results99⟩
def gr(l:List aq):Option (List aq):=
 (cr (bn ((([]:List aq):List aq).length+(l:List aq).length) 32)).bind λ_=>
 YW ((([]:List aq):List aq)++l)
instance (l:List aq):CT prog (gr l):=⟨132,[.sl (l.map aC)],[],λr=>.ms 0,λr=>[YW ⟨.of 147,4,r.map aC⟩],cw (gr.eq_1 ..) func132 ntmps132 results132⟩
def fh(l:List av):Option (List av):=
 (cr (bn ((([]:List av):List av).length+(l:List av).length) 16)).bind λ_=>
 YW ((([]:List av):List av)++l)
instance (l:List av):CT prog (fh l):=⟨133,[.sl (l.map aU)],[],λr=>.ms 0,λr=>[YW ⟨.of 46,2,r.map aU⟩],cw (fh.eq_1 ..) func133 ntmps133 results133⟩
def fA(a:Int)(b:Int):Option Int:=
 cond (Y0 (a<b))
 (YW b)
 (YW a)
instance (a:Int)(b:Int):CT prog (fA a b):=⟨113,[vi a,vi b],[],λr=>vi r,λr=>[],cw (fA.eq_1 ..) func113 ntmps113 results113⟩
end Go.Proofs.YtdilaemengjipaaGreatDoor
