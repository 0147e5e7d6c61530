/- A part of the proof of this claim's last theorem. No condition. -/
import Derived.Test.YtbjbellffaenaaaGreatDoorCT4
import Derived.Maps.OwnSet
import Derived.StringKeys
import Derived.Deep.AppendLies
import Derived.Sort.OwnSorted
import Derived.Lib.ItoaLen
set_option linter.all false
set_option maxRecDepth 100000
open Go.Value renaming int->Zh
open Go.IntKind renaming i64->Zi
open Go renaming undef->Zj
open Option renaming some->G,none->Zd
open Bool renaming true->Ze,false->R
open Decidable renaming decide->O
open List renaming length->N
open Option renaming bind->L
open _root_ renaming List->d,Nat->Zo,Option->F,Unit->V,cond->C
open Go.Proofs.YtbjbellffaenaaaGreatDoor renaming aJ->Z,az->W,vi->K
open Go.Proofs.Tryz
set_option maxHeartbeats 40000000
open List renaming foldl_cons->Wq,getElem?_eq_getElem->VS
open Nat renaming le_refl->VW,le_trans->Wd
open Option.some renaming inj->VV
open Option renaming bind_some->VR
namespace Go.Proofs.YtbjbellffaenaaaGreatDoor
open Go.RowKit Go.Maps Go.WideMaps
variable {Q:Exit->Act->World->Prop}{a:Act}{o:Oper}{ops:Array Oper}{rest:d Oper}
def inL(S:d ByteArray)(s:ByteArray):Bool:=S.any λy=>O (y=s)
theorem Sr{S:d ByteArray}{s:ByteArray}:inL S s=Ze↔s∈S:=by simp[inL]
theorem Ns(S:d ByteArray)(s s':ByteArray):inL (S++[s]) s'=(inL S s' ||O (s=s')):=by simp[inL]
def dd(out:d ByteArray)(s:ByteArray):d ByteArray:=if inL out s=Ze then out else out++[s]
def jO(n:ab):d ByteArray:=n.aC.flatMap λl=>[l.ar,l.aZ]
theorem xz{w w':World}{row:F Zo}(h:w.grownBy w' row){b o:Zo}(hb:b<w.heap.size)(gL:G b≠row):w'.cell? ⟨b,o,Zd⟩=w.cell? ⟨b,o,Zd⟩:=by simp[World.cell?,h.block b hb gL]
theorem Rd.N5{α:Type}[eZ α](w:World)(T:TypeId)(x:α)(H:Zo)(hH:w.heap.size=H):Rd (w.alloc (.cells (eZ.cells x).toArray T)) (H+1) (G ⟨H,0,Zd⟩) [x]:=by
 subst hH;exact Rd.one w T x _ (Nat.lt_succ_self _)
theorem RX{w:World}{b o:Zo}{u:Value}{ob:Obj}(h:w.cell? ⟨b,o,Zd⟩=G u):(w.alloc ob).cell? ⟨b,o,Zd⟩=G u:=
 ((Up.al ob (Up.rfl' w)).cell (p:=⟨b,o,Zd⟩) (World.block_lt_of_cell? _ _ h)).trans h
def vF(P:Program)(k e:TypeId)(w:World)(b n:Zo)(S:d ByteArray):Prop:=
 ∃D:DataW V,w.ownsMap P k (plainElem P e) b n D/\IsMap D/\∀s:ByteArray,D.atKey (.string s.data.toList) (.lit (.bool R))=.lit (.bool (inL S s))
section
variable {P:Program} {k e:TypeId} {w:World} {b n:Zo} {S:d ByteArray}
theorem vF.br(w:World):vF P k e (w.alloc (.map #[] 0)) w.heap.size 0 []:=
 ⟨_,World.ownsMap_made w P k _,isMap_empty,λs=>by rfl⟩
theorem vF.kept{w':World}{row:F Zo}(h:vF P k e w b n S)(hg:w.grownBy w' row)(gL:G b≠row):vF P k e w' b n S:=by
 obtain⟨D,h1,h2⟩:=h;exact⟨D,h1.kept hg gL,h2⟩
theorem vF.alloc(h:vF P k e w b n S)(o:Obj):vF P k e (w.alloc o) b n S:=by
 obtain⟨D,h1,h2⟩:=h;exact⟨D,h1.alloc o,h2⟩
theorem vF.setCell(h:vF P k e w b n S){a:Addr}(ha:b≠a.block)(u:Value):vF P k e (w.setCell a u) b n S:=by
 obtain⟨D,h1,h2⟩:=h;exact⟨D,h1.setCell ha u,h2⟩
theorem vF.mono(h:vF P k e w b n S){n':Zo}(hn:n<=n'):vF P k e w b n' S:=by
 obtain⟨D,h1,h2⟩:=h;exact⟨D,h1.mono hn,h2⟩
theorem vF.lt(h:vF P k e w b n S):b<w.heap.size:=by obtain⟨D,h1,_⟩:=h;exact h1.lt
theorem Zfc{a b:Bool}(h:(DataW.lit (.bool a):DataW V)=.lit (.bool b)):a=b:=by simp_all
theorem ZaL(he:P.underlying e=G .bool){v:Value}{z:DataW V×d MemPlace}(h:plainElem P e v=G z):∃c,v=.bool c/\z=(.lit (.bool c),[]):=by
 unfold plainElem at h
 grind
theorem ig(w:World)
 (hg:o.guard=Zd) (m x:Operand) (t:TypeId) (hop:o.op=Op.lookup t m x R)
 (k e:TypeId) (hk:P.underlying k=G .string) (ht:P.underlying t=G (.map k e)) (he:P.underlying e=G .bool) (hz:∀w,(zeroValue e).run P w=.ok (.bool R) w) (b n:Zo) (S:d ByteArray)
 (hm:a.eval m=.map (G b)) (pj:vF P k e w b n S) (s:ByteArray) (hx:a.eval x=.string s) (hs:s.size<=maxLen) (c:Bool) (hc:inL S s=c)
 (hK:wpList P ops Q rest (a.put o.dst (.bool c)) w):
 wpList P ops Q (o::rest) a w:=by
 refine wpList_plain hg λK' hK'=>?_
 subst hc;obtain⟨D,h1,h2,h3⟩:=pj;obtain⟨v,ps,kZ,hv⟩:=h1.lookup (string_keyed hk) ht (hz w) (plainElem_bool he R) (keyOf_string_mk hk hs);obtain⟨c,rfl,hc⟩:=ZaL he hv;simp only[Prod.mk.injEq]at hc
 have ta:c=inL S s:=Zfc (hc.1.symm.trans (h3 s));subst ta;unfold Oper.wp;simp[execOp,hop,hm,hx,kZ,Result.andThen];exact hK' _ _ hK
theorem qx(w:World)
 (hg:o.guard=Zd) (m x v:Operand) (t:TypeId) (hop:o.op=Op.mapUpdate t m x v)
 (k e:TypeId) (hk:P.underlying k=G .string) (ht:P.underlying t=G (.map k e)) (he:P.underlying e=G .bool) (b n:Zo) (S:d ByteArray)
 (hm:a.eval m=.map (G b)) (pj:vF P k e w b n S) (hn:n<maxLen) (s:ByteArray) (hx:a.eval x=.string s) (hv:a.eval v=.bool Ze) (hs:s.size<=maxLen)
 (hK:∀w',vF P k e w' b (n+1) (S++[s])->w.grownBy w' (G b)->wpList P ops Q rest (a.put o.dst Zj) w'):
 wpList P ops Q (o::rest) a w:=by
 refine wpList_plain hg λK' hK'=>?_
 obtain⟨D,h1,h2,h3⟩:=pj;obtain⟨w',kZ,r1,r2⟩:=h1.update (string_keyed hk) ht hn (keyOf_string_mk hk hs) (plainElem_bool (H:=V) he Ze);unfold Oper.wp;simp[execOp,hop,hm,hx,hv,kZ,Result.andThen];refine hK' _ _ (hK w' ⟨_,r1,h2.put _ _,λs'=>?_⟩ r2)
 by_cases e:s'=s
 ·subst e
  rw[atKey_put_same h2 (by simp[WideAt.IsKeyLit])]
  rw[Ns];simp
 ·rw[atKey_put_other (by intro h;simp at h;exact e (by obtain⟨⟨x⟩⟩:=s';simp_all)),h3 s',Ns,Yt (λh=>e h.symm),Bool.or_false]
end
end Go.Proofs.YtbjbellffaenaaaGreatDoor
namespace Go.Proofs.YtbjbellffaenaaaGreatDoor
open Go.RowKit
def Hm(xs:d ByteArray):d ByteArray:=((xs.map λb:ByteArray=>b.data.toList).mergeSort λx y=>O (x<=y)).map λl=>⟨l.toArray⟩
def O3(xs:d ByteArray):N (Hm xs)=N xs:=by simp[Hm]
end Go.Proofs.YtbjbellffaenaaaGreatDoor
namespace Go.Proofs.YtbjbellffaenaaaGreatDoor
open Go.RowKit Go.Maps Go.WideMaps Go.Sort
variable {i:Zo}{x:bP}
instance :eZ bP where
 cells x:=[.string x.ar,.string x.aZ,I x.start,I x.o8,I x.yr,I x.jb]
 k:=6
 len _:=rfl
 pos:=by decide
 one:=by simp[Value.oneCell',I]
theorem Rd.bq{w:World}{B:Zo}{A:F Addr}{xs:d bP}(h:Rd w B A xs)(hx:xs[i]?=G x):
 ∃b off,A=G ⟨b,off,Zd⟩/\b<B/\w.cell? ⟨b,off+i*6,Zd⟩=G (.string x.ar)/\w.cell? ⟨b,off+i*6+1,Zd⟩=G (.string x.aZ)/\w.cell? ⟨b,off+i*6+2,Zd⟩=G (I x.start)/\w.cell? ⟨b,off+i*6+3,Zd⟩=G (I x.o8)/\w.cell? ⟨b,off+i*6+4,Zd⟩=G (I x.yr)/\w.cell? ⟨b,off+i*6+5,Zd⟩=G (I x.jb):=by
 obtain⟨b,off,e,hb,hc⟩:=h.aQ hx;exact⟨b,off,e,hb,hc 0 _ rfl,hc 1 _ rfl,hc 2 _ rfl,hc 3 _ rfl,hc 4 _ rfl,hc 5 _ rfl⟩
theorem ZbX:(prog.info? 9).map (λi=>(i.zero,i.size,i.bytes))=G (G (Value.string ⟨#[]⟩),1,16):=by kernel_rfl
theorem Ka:Tx prog 84 9 (eZ.k ByteArray) 16:=Tx.mk' Tryz.underlying84 ZbX rfl
theorem sD(w:World):(zeroValue 4).run prog w=.ok (.bool R) w:=by kernel_rfl
def wu(aC:d bP)(i:Zo):d ByteArray:=(aC.take i).foldl (λout l=>dd (dd out l.ar) l.aZ) []
theorem Zct{aC:d bP}(hx:aC[i]?=G x):wu aC (i+1)=dd (dd (wu aC i) x.ar) x.aZ:=by
 unfold wu;rw[xw hx]
theorem Zba(out:d ByteArray)(s:ByteArray):N (dd out s)<=N out+1:=by unfold dd;split<;>simp
theorem SC(aC:d bP)(i:Zo):N (wu aC i)<=2*i:=by
 have h:∀(b:d bP) (out:d ByteArray),N (b.foldl (λout l=>dd (dd out l.ar) l.aZ) out)<=N out+2*N b:=by
  intro b
  induction b with
  |nil=>intro out;simp
  |cons x b ih=>
   intro out;have h1:=ih (dd (dd out x.ar) x.aZ);have h2:=Zba (dd out x.ar) x.aZ;have h3:=Zba out x.ar;simp only[Wq,List.length_cons];omega
 have h1:=h (aC.take i) [];have h2:N (aC.take i)<=i:=List.length_take_le _ _;simp only[List.length_nil]at h1
 unfold wu;omega
theorem OY(g cp n B:Zo)(zs:d ByteArray)(w:World)(ho:Own w B 9 (.slice (G ⟨g,0,Zd⟩) n cp) zs)(hl:n=N zs)(hn:n<=4194304):
 Calls prog 158 #[.slice (G ⟨g,0,Zd⟩) n cp] w λe w'=>e=.returned (.tuple #[])/\Own w' B 9 (.slice (G ⟨g,0,Zd⟩) n cp) (Hm zs)/\w.grownBy w' (G g):=by
 subst hl
 rcases ho.2 with⟨h0,_⟩ |⟨g',Zhn,cur,hv,hB,hg,xW,EX,tv,ht⟩
 ·cases h0
 ·obtain⟨rfl,rfl⟩:g=g'/\cp=Zhn:=by simpa using hv
  have hss:N (zs.map λb:ByteArray=>b.data.toList)=N zs:=by simp
  have HQ:cur.toList.take (N (zs.map λb:ByteArray=>b.data.toList))=(zs.map λb:ByteArray=>b.data.toList).map encStr:=by
   have:=ht;rw[show eZ.k ByteArray=1 from rfl,Nat.mul_one,CW]at this
   rw[hss,this,List.map_map];apply List.map_congr_left;intro b _;rfl
  have hH:=holds_of_block hg HQ;have key:=Tryz.sort_Strings g 0 cp _ w hH (Array.getElem?_eq_some_iff.1 hg).1 (by rw[hss];omega)
  rw[hss]at key
  refine key.mono ?_;rintro e w' ⟨rfl,m,os,rfl⟩;have hs:=ownsRow_sorted (n:=m) (os:=os) (ss:=zs.map λb:ByteArray=>b.data.toList) (ts:=(zs.map λb:ByteArray=>b.data.toList).mergeSort λx y=>O (x<=y)) YE hB hg (by simpa using xW) EX tv
  refine⟨rfl,?_,grownBy_sorted _⟩;unfold Own;rw[O3,CW];rw[hss]at hs
  have e2:(Hm zs).map Value.string=((zs.map λb:ByteArray=>b.data.toList).mergeSort λx y=>O (x<=y)).map encStr:=by
   unfold Hm;rw[List.map_map];rfl
  rw[e2];exact hs
theorem Ou(A:F Addr)(aC:d bP)(n c:Zo)(v2 v3:Value)(w:World)(hr:Rd w w.heap.size A aC)(hl:n=N aC)(hc:N aC<=c)(hn:n<=1048576)(hs:∀l∈aC,l.ar.size<=maxLen/\l.aZ.size<=maxLen):
 Calls prog 92 #[.agg #[.slice A n c,v2,v3]] w λe w'=>∃v,e=.returned v/\Own w' w.heap.size 9 v (Hm (wu aC (N aC)))/\Up w w':=by
 subst hl;have hmm:=@run_makeMap prog
 go_enter func92,ntmps92
 go_wp2
 go_loopw [4,14] (λv i wr=>∃j g cp:Zo,j<=N aC/\i=Zh Zi j/\v=.slice (G ⟨g,0,Zd⟩) (N (wu aC j)) cp/\Own wr (w.heap.size+2) 9 (.slice (G ⟨g,0,Zd⟩) (N (wu aC j)) cp) (wu aC j)/\vF prog 9 4 wr (w.heap.size+1) (2*j) (wu aC j)/\Up w wr) (λ_ i _=>N aC-(intOf i).toNat)
 case atStart=>exact⟨0,w.heap.size+1+1,0,YA,rfl,rfl,by have h_:=Own.empty (α:=ByteArray) ((w.alloc (.cells #[.slice A (N aC) c,v2,v3] 27)).alloc (.map #[] 0)) (w.heap.size+2) 9 0 #[] YE YR rfl;simpa[wu]using h_,by have h_:=(vF.br (P:=prog) (k:=9) (e:=4) (w.alloc (.cells #[.slice A (N aC) c,v2,v3] 27))).alloc (.cells #[] 9);simpa[wu]using h_,by(repeat(first|exact Up.rfl' _|(refine Up.al _ ?_) |(refine Up.dr _ ?_) |(refine Up.sZ ?_) |(refine Up.sc ?_ YH _) |(refine Up.step YN ?_)))⟩
 case round=>
  obtain⟨i,g3,c3',hi,rfl,rfl,ho,C7,hb⟩:=hrel
  by_cases bD:i<N aC
  ·obtain⟨x,hx⟩:=C0 bD
   obtain⟨b,off,rfl,Pw,c0,c1,c2,c3,c4,c5⟩:=(hr.below hb).bq hx;have hlen:=SC aC i;obtain⟨C6,D8⟩:=hs x (List.mem_of_getElem? hx);have vd:=World.ownsRow.lt ho g3 rfl;have HO:=Lib.hid ho;have HS:=Lib.hid C7;clear ho C7
   go_wp2_with fail
   generalize LW:(wr.alloc _).alloc _=wb;have d0:wb.cell? ⟨wr.heap.size+1,0,Zd⟩=G (.string x.ar):=by rw[<-LW];simp[go_sem]
   have d1:wb.cell? ⟨wr.heap.size+1,1,Zd⟩=G (.string x.aZ):=by rw[<-LW];simp[go_sem]
   have LV:Up wr wb:=by rw[<-LW];(repeat(first|exact Up.rfl' _|(refine Up.al _ ?_) |(refine Up.dr _ ?_) |(refine Up.sZ ?_) |(refine Up.sc ?_ YH _) |(refine Up.step YN ?_)))
   have xh:wr.heap.size+2<=wb.heap.size:=by rw[<-LW];simp
   have EK:Hid (vF prog 9 4 wb (w.heap.size+1) (2*i) (wu aC i)):=Lib.hid (by rw[<-LW];exact(HS.out.alloc _).alloc _)
   have HO0:=Lib.hid (HO.out.up LV);have Qa:Up w wb:=Up.step LV hb;clear LW c0 c1 c2 c3 c4 c5 HS HO;have hw0:=hb.size;have Qm:=Zct hx;have Qb:=Qa
   cases h1:inL (wu aC i) x.ar with
   |false=>
    cases h2:inL (wu aC i++[x.ar]) x.aZ with
    |false=>
     refine wp_loop_rounds 3 ?_
     iterate 3 (rw[rounds_succ];go_wp2_with (first|(at_builtin;(have Kl:=HP2.out);go_loud (refine gb Ka rfl (.tmp 34) (.tmp 36) rfl (base:=w.heap.size+2) (ys:=(wu aC i++[x.ar])) (xs:=[x.aZ]) YT (Kl.up YB) 1 YT rfl (Rd.N5 _ _ (x.aZ) _ YE) YL YV YL ?_);intro v2 w2 D7 vc _ hu_;go_loud (have Pu:=Lib.hid ((HT2.out.alloc _).kept vc YS);have LM:Up w w2:=Below.grown (Up.al _ hd2) vc YL (λk e=>by have h_:=World.ownsRow.lt Kl _ e;omega);have ZmJ:w2a.heap.size+1<=w2.heap.size:=YY;have HO2:=Lib.hid D7);clear D7 Kl vc hu_ HT2 HP2) |(at_mapUpdate;(have h_:=HS1.out);go_loud (refine qx _ rfl _ _ _ 208 rfl 9 4 Tryz.underlying9 Tryz.underlying208 Tryz.underlying4 (w.heap.size+1) (2*i+1) (wu aC i++[x.ar]) rfl HS1.out YR _ rfl rfl D8 ?_);intro w2a hs_ vc;go_loud (have HT2:=Lib.hid hs_;clear hs_;have HP2:=Lib.hid (HO1.out.grown vc (.inr (by intro hh;have h_:=World.ownsRow.lt HO1.out _ hh;omega)));have hd2:Up w w2a:=Below.grown Ge vc Ge.size (λk e=>by cases e;omega);have IQ:=vc.size;have hp2:=Wd Ge.size vc.size);clear vc) |(at_lookup;have h_:=HS1.out;(refine ig _ rfl _ _ 208 rfl 9 4 Tryz.underlying9 Tryz.underlying208 Tryz.underlying4 sD (w.heap.size+1) (2*i+1) (wu aC i++[x.ar]) rfl HS1.out _ rfl D8 _ h2 ?_)) |(at_builtin;(have Kl:=HP1.out);go_loud (refine gb Ka rfl (.tmp 34) (.tmp 36) rfl (base:=w.heap.size+2) (ys:=(wu aC i)) (xs:=[x.ar]) YT (Kl.up YB) 1 YT rfl (Rd.N5 _ _ (x.ar) _ YE) YL YV YL ?_);intro v1 w1 Ng vc _ hu_;go_loud (have HS1:=Lib.hid ((HT1.out.alloc _).kept vc YS);have Ge:Up w w1:=Below.grown (Up.al _ hd1) vc YL (λk e=>by have h_:=World.ownsRow.lt Kl _ e;omega);have d2:=(xz vc YL Y3).trans (RX dz1);have ZmI:w1a.heap.size+1<=w1.heap.size:=YY;have HO1:=Lib.hid Ng);clear Ng Kl vc hu_ HT1 HP1) |(at_mapUpdate;(have h_:=EK.out);go_loud (refine qx _ rfl _ _ _ 208 rfl 9 4 Tryz.underlying9 Tryz.underlying208 Tryz.underlying4 (w.heap.size+1) (2*i) (wu aC i) rfl EK.out YR _ rfl rfl C6 ?_);intro w1a hs_ vc;go_loud (have HT1:=Lib.hid hs_;clear hs_;have HP1:=Lib.hid (HO0.out.grown vc (.inr YW));have hd1:Up w w1a:=Below.grown Qb vc Qb.size (λk e=>by cases e;omega);have PC:=vc.size;have dz1:=(xz vc YA (by intro hh;injection hh with hh;omega)).trans d1;have Qi:=Wd Qb.size vc.size);clear vc) |(at_lookup;have h_:=EK.out;(refine ig _ rfl _ _ 208 rfl 9 4 Tryz.underlying9 Tryz.underlying208 Tryz.underlying4 sD (w.heap.size+1) (2*i) (wu aC i) rfl EK.out _ rfl C6 _ h1 ?_))))
     have vH:wu aC (i+1)=(wu aC i++[x.ar]++[x.aZ]):=by rw[Qm];simp[dd,h1,h2]
     have hoF:=HO2.out;obtain⟨g4,c4,hv4,_⟩:=World.ownsRow.form hoF YE;exact⟨⟨i+1,g4,c4,YA,by go_num,by rw[vH];exact hv4,by rw[vH,<-hv4];exact hoF,by rw[vH];exact Pu.out.mono YA,LM⟩,by simp[intOf];omega⟩
    |true=>
     refine wp_loop_rounds 3 ?_
     iterate 3 (rw[rounds_succ];go_wp2_with (first|(at_lookup;have h_:=HS1.out;(refine ig _ rfl _ _ 208 rfl 9 4 Tryz.underlying9 Tryz.underlying208 Tryz.underlying4 sD (w.heap.size+1) (2*i+1) (wu aC i++[x.ar]) rfl HS1.out _ rfl D8 _ h2 ?_)) |(at_builtin;(have Kl:=HP1.out);go_loud (refine gb Ka rfl (.tmp 34) (.tmp 36) rfl (base:=w.heap.size+2) (ys:=(wu aC i)) (xs:=[x.ar]) YT (Kl.up YB) 1 YT rfl (Rd.N5 _ _ (x.ar) _ YE) YL YV YL ?_);intro v1 w1 Ng vc _ hu_;go_loud (have HS1:=Lib.hid ((HT1.out.alloc _).kept vc YS);have Ge:Up w w1:=Below.grown (Up.al _ hd1) vc YL (λk e=>by have h_:=World.ownsRow.lt Kl _ e;omega);have d2:=(xz vc YL Y3).trans (RX dz1);have ZmI:w1a.heap.size+1<=w1.heap.size:=YY;have HO1:=Lib.hid Ng);clear Ng Kl vc hu_ HT1 HP1) |(at_mapUpdate;(have h_:=EK.out);go_loud (refine qx _ rfl _ _ _ 208 rfl 9 4 Tryz.underlying9 Tryz.underlying208 Tryz.underlying4 (w.heap.size+1) (2*i) (wu aC i) rfl EK.out YR _ rfl rfl C6 ?_);intro w1a hs_ vc;go_loud (have HT1:=Lib.hid hs_;clear hs_;have HP1:=Lib.hid (HO0.out.grown vc (.inr YW));have hd1:Up w w1a:=Below.grown Qb vc Qb.size (λk e=>by cases e;omega);have PC:=vc.size;have dz1:=(xz vc YA (by intro hh;injection hh with hh;omega)).trans d1;have Qi:=Wd Qb.size vc.size);clear vc) |(at_lookup;have h_:=EK.out;(refine ig _ rfl _ _ 208 rfl 9 4 Tryz.underlying9 Tryz.underlying208 Tryz.underlying4 sD (w.heap.size+1) (2*i) (wu aC i) rfl EK.out _ rfl C6 _ h1 ?_))))
     have vH:wu aC (i+1)=(wu aC i++[x.ar]):=by rw[Qm];simp[dd,h1,h2]
     have hoF:=HO1.out;obtain⟨g4,c4,hv4,_⟩:=World.ownsRow.form hoF YE;exact⟨⟨i+1,g4,c4,YA,by go_num,by rw[vH];exact hv4,by rw[vH,<-hv4];exact hoF,by rw[vH];exact HS1.out.mono YA,Ge⟩,by simp[intOf];omega⟩
   |true=>
    cases h2:inL (wu aC i) x.aZ with
    |false=>
     refine wp_loop_rounds 3 ?_
     iterate 3 (rw[rounds_succ];go_wp2_with (first|(at_lookup;have h_:=EK.out;(refine ig _ rfl _ _ 208 rfl 9 4 Tryz.underlying9 Tryz.underlying208 Tryz.underlying4 sD (w.heap.size+1) (2*i) (wu aC i) rfl EK.out _ rfl C6 _ h1 ?_)) |(at_lookup;have h_:=EK.out;(refine ig _ rfl _ _ 208 rfl 9 4 Tryz.underlying9 Tryz.underlying208 Tryz.underlying4 sD (w.heap.size+1) (2*i) (wu aC i) rfl EK.out _ rfl D8 _ h2 ?_)) |(at_mapUpdate;(have h_:=EK.out);go_loud (refine qx _ rfl _ _ _ 208 rfl 9 4 Tryz.underlying9 Tryz.underlying208 Tryz.underlying4 (w.heap.size+1) (2*i) (wu aC i) rfl EK.out YR _ rfl rfl D8 ?_);intro w2a hs_ vc;go_loud (have HT2:=Lib.hid hs_;clear hs_;have HP2:=Lib.hid (HO0.out.grown vc (.inr YW));have hd2:Up w w2a:=Below.grown Qb vc Qb.size (λk e=>by cases e;omega);have IQ:=vc.size;have hp2:=Wd Qb.size vc.size);clear vc) |(at_builtin;(have Kl:=HP2.out);go_loud (refine gb Ka rfl (.tmp 34) (.tmp 36) rfl (base:=w.heap.size+2) (ys:=(wu aC i)) (xs:=[x.aZ]) YT (Kl.up YB) 1 YT rfl (Rd.N5 _ _ (x.aZ) _ YE) YL YV YL ?_);intro v2 w2 D7 vc _ hu_;go_loud (have Pu:=Lib.hid ((HT2.out.alloc _).kept vc YS);have LM:Up w w2:=Below.grown (Up.al _ hd2) vc YL (λk e=>by have h_:=World.ownsRow.lt Kl _ e;omega);have ZmJ:w2a.heap.size+1<=w2.heap.size:=YY;have HO2:=Lib.hid D7);clear D7 Kl vc hu_ HT2 HP2)))
     have vH:wu aC (i+1)=(wu aC i++[x.aZ]):=by rw[Qm];simp[dd,h1,h2]
     have hoF:=HO2.out;obtain⟨g4,c4,hv4,_⟩:=World.ownsRow.form hoF YE;exact⟨⟨i+1,g4,c4,YA,by go_num,by rw[vH];exact hv4,by rw[vH,<-hv4];exact hoF,by rw[vH];exact Pu.out.mono YA,LM⟩,by simp[intOf];omega⟩
    |true=>
     refine wp_loop_rounds 3 ?_
     iterate 3 (rw[rounds_succ];go_wp2_with (first|(at_lookup;have h_:=EK.out;(refine ig _ rfl _ _ 208 rfl 9 4 Tryz.underlying9 Tryz.underlying208 Tryz.underlying4 sD (w.heap.size+1) (2*i) (wu aC i) rfl EK.out _ rfl C6 _ h1 ?_)) |(at_lookup;have h_:=EK.out;(refine ig _ rfl _ _ 208 rfl 9 4 Tryz.underlying9 Tryz.underlying208 Tryz.underlying4 sD (w.heap.size+1) (2*i) (wu aC i) rfl EK.out _ rfl D8 _ h2 ?_))))
     have vH:wu aC (i+1)=(wu aC i):=by rw[Qm];simp[dd,h1,h2]
     exact⟨⟨i+1,g3,c3',YA,by go_num,by rw[vH],by rw[vH];exact HO0.out,by rw[vH];exact EK.out.mono YA,Qb⟩,by simp[intOf];omega⟩
  ·obtain rfl:i=N aC:=YA
   have hlen:=SC aC (N aC)
   go_wp2_with fail
   refine(OY g3 c3' _ _ (wu aC (N aC)) _ ho rfl YA).mono ?_;rintro e w1 ⟨rfl,Ng,hg1⟩;have vJ:Up w w1:=Below.grown hb hg1 hb.size (λk e=>by cases e;have h_:=World.ownsRow.lt ho g3 rfl;omega)
   go_wp2_with fail
   go_ret
   exact⟨_,rfl,by simpa[O3]using Ng.more YA,vJ⟩
end Go.Proofs.YtbjbellffaenaaaGreatDoor
namespace Go.Proofs.YtbjbellffaenaaaGreatDoor
open Go.RowKit
def US(n:ab):wu n.aC (N n.aC)=(jO n).foldl dd []:=by
 have h:∀(l:d bP) (acc:d ByteArray),l.foldl (λout l=>dd (dd out l.ar) l.aZ) acc=(l.flatMap λl=>[l.ar,l.aZ]).foldl dd acc:=by
  intro l
  induction l with
  |nil=>intro acc;rfl
  |cons x l ih=>intro acc;simp only[Wq,List.flatMap_cons,List.foldl_append,List.foldl_nil,ih]
 unfold wu jO;rw[List.take_length];exact h _ _
def di(n:ab):F (d ByteArray):=
 if (N n.aC)<=1048576/\(n.aC.all λl=>O (l.ar.size<=maxLen/\l.aZ.size<=maxLen))=Ze then G (Hm ((jO n).foldl dd []))else Zd
def Dm(n:ab){r:(d ByteArray)}(H:di n=G r):eh prog 92 [.ag (aT n)] [] (.ms 0) [G ⟨.of 9,1,r.map jQ⟩]:=by
 unfold di at H
 split at H
 case isFalse=>cases H
 rename_i hok;obtain⟨hn,hs⟩:=hok;obtain rfl:=VV H;have hs':∀l∈n.aC,l.ar.size<=maxLen/\l.aZ.size<=maxLen:=λl hl=>Yu (List.all_eq_true.1 hs l hl)
 intro S β w vs ω hk hl ha;obtain⟨x,hx0,hr⟩:=ha 0 _ rfl;have hv:vs=#[x]:=by
  have h1:vs.size=1:=hl;apply Array.ext (by simp[h1])
  intro i h2 h3;have:i=0:=YA;subst this;have:=(Array.getElem?_eq_some_iff.1 hx0).2
  simpa using this
 subst hv;obtain⟨us,rfl,hul,vJ,hur⟩:=hr.si;have ZbR:us.size=3:=hul;have h0:us[0]?=G us[0]:=Array.getElem?_eq_getElem YA;have hus:us=#[us[0],us[1],us[2]]:=by
  apply Array.ext (by simp[ZbR])
  intro i h2 h3
  match i,h2 with
  |0,_=>rfl
  |1,_=>rfl
  |2,_=>rfl
  |i+3,h2=>omega
 have hr0:=hur 0 (.sl (n.aC.map cY)) _ rfl h0;have Ax:∃A c,us[0]=.slice A (N n.aC) c/\(N n.aC)<=c/\Rd w w.heap.size A n.aC:=by
  cases hr0 with
  |c h=>
   generalize hq:PV.sl (n.aC.map cY)=q at h
   generalize us[0]=y at h
   cases h with
   |v x h=>cases hq
   |ud=>cases hq
   |un=>cases hq
   |rp=>cases hq
   |fn=>cases hq
   |nil A c=>
    have:n.aC=[]:=by simpa using hq
    exact⟨A,c,by rw[this];rfl,by rw[this];simp,by rw[this];exact Rd.Zfl⟩
   |sl es b off k c u hS hkp xW hm zq ta h1 hrr=>
    obtain rfl:n.aC.map cY=es:=by simpa using hq
    refine⟨_,c,by simp,by simpa using xW,λgL=>⟨b,off,rfl,hk.sz b hS,λj u' Nn=>?_⟩⟩
    have iZ:0<N n.aC:=List.length_pos_iff.2 gL;have hk6:k=6:=(zq 0 (cY n.aC[0]) (by simp[iZ])).symm
    subst hk6;have hj:=(List.getElem?_eq_some_iff.1 Nn).1;rw[nd]at hj
    have hj6:j<N n.aC*6:=hj;have hi:j / 6<N n.aC:=YA;have hy:n.aC[j / 6]?=G n.aC[j / 6]:=VS hi;have hjj:j=(j / 6)*6+j % 6:=YA;have hm6:j % 6<6:=Nat.mod_lt _ YJ;have hp:∃p u'',(cY n.aC[j / 6])[j % 6]?=G p/\(eZ.cells n.aC[j / 6])[j % 6]?=G u''/\∀z,eO w S p z->z=u'':=by
     generalize n.aC[j / 6]=y;generalize j % 6=m at hm6
     match m,hm6 with
     |0,_=>exact⟨_,_,rfl,rfl,λz hz=>by cases hz;rfl⟩
     |1,_=>exact⟨_,_,rfl,rfl,λz hz=>by cases hz;rfl⟩
     |2,_=>exact⟨_,_,rfl,rfl,λz hz=>by cases hz;rfl⟩
     |3,_=>exact⟨_,_,rfl,rfl,λz hz=>by cases hz;rfl⟩
     |4,_=>exact⟨_,_,rfl,rfl,λz hz=>by cases hz;rfl⟩
     |5,_=>exact⟨_,_,rfl,rfl,λz hz=>by cases hz;rfl⟩
    obtain⟨p,u'',Qi,hp2,hp3⟩:=hp;have hf:=xu hy hp2;rw[show eZ.k bP=6 from rfl,<-hjj]at hf
    obtain rfl:u''=u':=VV (hf.symm.trans Nn);have e1:(n.aC.map cY)[j / 6]?=G (cY n.aC[j / 6]):=by simp[hi]
    have hc:=ta (j / 6) _ (j % 6) p e1 Qi;have hz:=hp3 _ (hrr (j / 6) _ (j % 6) p e1 Qi);rw[hz]at hc
    rw[show off+j=off+j / 6*6+j % 6 by omega]
    exact hc
 obtain⟨A,c,hA,ZhZ,IN⟩:=Ax;rw[hus,hA];refine(Ou A n.aC _ c _ _ w IN rfl ZhZ hn hs').mono ?_;rintro e w' ⟨v,rfl,ho,hu⟩;rw[US]at ho
 obtain⟨E',h1,h2,h3,h4,h5⟩:=uU (c:=jQ) hk ho hu (λx=>⟨rfl,λj p hj=>by
  cases j with
  |zero=>obtain rfl:vs x=p:=by simpa using hj
         exact⟨_,rfl,rfl,λw E=>.c (.v _ rfl)⟩
  |succ j=>simp[jQ]at hj⟩)
 exact⟨v,E',rfl,h1,h2,h3,h4,h5⟩
instance (n:ab):CT prog (di n):=⟨92,[.ag (aT n)],[],λr=>.ms 0,λr=>[G ⟨.of 9,1,r.map jQ⟩],Dm n⟩
def tX(l:d Int)(s0:Int):F (Int⊕(V⊕Bool)):=
 C (O (s0<(N l:Int)))
 (L (W l s0) λy1=>
 L (ba y1 1 2000) λy2=>
 C (!y2)
 (G (.inr (.inr R)))
 (G (.inl (Z (s0+1)))))
 (G (.inr (.inl ())))
instance (l:d Int):bm (tX l):=⟨λs0=>(.sl (l.map aW)::(U 4 (.sl (l.map aW)::K (N l:Int)::K s0::(U 10 [])))),λs0=>[]⟩
def kD(l:d Int):F Bool:=
 (aB (tX l) NN 0).bind (bj (λo0=>
 G (O ((N l:Int)=3))) (λr=>G r))
instance (l:d Int):CT prog (kD l):=⟨163,[.sl (l.map aW)],[],λr=>vb r,λr=>[],cw (kD.eq_1 ..) func163 ntmps163 results163⟩
def qD(bJ:d Int):F Int:=
 L (kD bJ) λy1=>
 C (!y1)
 (G 0)
 (L (oH bJ) λy2=>
 L (W y2 0) λy3=>
 L (W y2 1) λy4=>
 L (W y2 2) λy5=>
 G (Z ((Z (y3+(Z (2*y4))))+(Z (2*y5)))))
instance (bJ:d Int):CT prog (qD bJ):=⟨164,[.sl (bJ.map aW)],[],λr=>K r,λr=>[],cw (qD.eq_1 ..) func164 ntmps164 results164⟩
def km(l:bt):F Bool:=
 L (ba l.ax 1 3) λy1=>
 C y1
 (L (ba l.bU 0 999999999) λy2=>
 C y2
 (L (eT l.aZ) λy3=>
 G y3)
 (G R))
 (G R)
instance (l:bt):CT prog (km l):=⟨162,[.ag (sj l)],[],λr=>vb r,λr=>[],cw (km.eq_1 ..) func162 ntmps162 results162⟩
def iv(p:aP):F Bool:=
 L (km p.label) λy1=>
 C y1
 (L (eT p.ar) λy2=>
 C y2
 (C (!decide (p.ar=p.label.aZ))
 (L (ba p.ah 1 30000) λy3=>
 C y3
 (L (kD p.bJ) λy4=>
 C y4
 (L (qD p.bJ) λy5=>
 C (O (y5<=3600))
 (L (ba p.value 0 500000) λy6=>
 G y6)
 (G R))
 (G R))
 (G R))
 (G R))
 (G R))
 (G R)
instance (p:aP):CT prog (iv p):=⟨98,[.ag (cd p)],[],λr=>vb r,λr=>[],cw (iv.eq_1 ..) func98 ntmps98 results98⟩
def jA(a:d Int)(b:d Int)(s0:Int):F (Int⊕(V⊕Bool)):=
 C (O (s0<(N a:Int)))
 (L (W a s0) λy1=>
 L (W b s0) λy2=>
 C (!decide (y1=y2))
 (G (.inr (.inr R)))
 (G (.inl (Z (s0+1)))))
 (G (.inr (.inl ())))
instance (a:d Int)(b:d Int):bm (jA a b):=⟨λs0=>(.sl (a.map aW)::.sl (b.map aW)::(U 10 (K (N a:Int)::K s0::(U 12 [])))),λs0=>[]⟩
def fY(a:d Int)(b:d Int):F Bool:=
 C (!decide ((N a:Int)=(N b:Int)))
 (G R)
 ((aB (jA a b) NN 0).bind (bj (λo0=>
 G Ze) (λr=>G r)))
instance (a:d Int)(b:d Int):CT prog (fY a b):=⟨66,[.sl (a.map aW),.sl (b.map aW)],[],λr=>vb r,λr=>[],λH=>by replace H:=H0 H;unfold fY at H;exact je func66 rfl ntmps66 results66 λQ hQ Kf=>LA⟩
def j3(a:aP)(b:aP):F Bool:=
 C (O (a.label=b.label))
 (C (O (a.ar=b.ar))
 (C (O (a.ah=b.ah))
 (L (fY a.bJ b.bJ) λy1=>
 C y1
 (G (O (a.value=b.value)))
 (G R))
 (G R))
 (G R))
 (G R)
instance (a:aP)(b:aP):CT prog (j3 a b):=⟨68,[.ag (cd a),.ag (cd b)],[],λr=>vb r,λr=>[],cw (j3.eq_1 ..) func68 ntmps68 results68⟩
def mR(a:bk)(b:bk):F Bool:=
 C (O (a.kind=b.kind))
 (L (j3 a.aM b.aM) λy1=>
 C y1
 (C (O (a.order=b.order))
 (C (O (a.bE=b.bE))
 (C (O (a.bG=b.bG))
 (G (O (a.aN=b.aN)))
 (G R))
 (G R))
 (G R))
 (G R))
 (G R)
instance (a:bk)(b:bk):CT prog (mR a b):=⟨69,[.ag (fQ a),.ag (fQ b)],[],λr=>vb r,λr=>[],cw (mR.eq_1 ..) func69 ntmps69 results69⟩
def bS(a:bk):F Bool:=
 (jn 3 22 (
 C (O (a.kind=1))
 (L (iv a.aM) λy1=>
 G (.inl (y1,a.aM.label.ax,a.aM.label.bU,a.aM.label.aZ,a.aM.ar,a.aM.ah,a.aM.bJ,a.aM.value,0,0,0,0,0)))
 (C (O (a.kind=2))
 (L (ba a.order 1 9999) λy2=>
 C y2
 (L (ba a.bE 1 100000) λy3=>
 G (.inl (y3,0,0,⟨#[]⟩,⟨#[]⟩,0,[],0,a.order,a.bE,0,0,0)))
 (G (.inl (R,0,0,⟨#[]⟩,⟨#[]⟩,0,[],0,a.order,a.bE,0,0,0))))
 (C (O (a.kind=3))
 (L (ba a.bG 0 100000) λy4=>
 G (.inl (y4,0,0,⟨#[]⟩,⟨#[]⟩,0,[],0,0,0,a.bG,0,0)))
 (C (O (a.kind=4))
 (L (ba a.aN.bq 0 19) λy5=>
 C y5
 (L (ba a.aN.day 0 60) λy6=>
 G (.inl (y6,0,0,⟨#[]⟩,⟨#[]⟩,0,[],0,0,0,0,a.aN.bq,a.aN.day)))
 (G (.inl (R,0,0,⟨#[]⟩,⟨#[]⟩,0,[],0,0,0,0,a.aN.bq,a.aN.day))))
 (C (O (a.kind=5))
 (G (.inl (Ze,0,0,⟨#[]⟩,⟨#[]⟩,0,[],0,0,0,0,0,0)))
 (C (O (a.kind=6))
 (L (ba a.order 1 9999) λy7=>
 G (.inl (y7,0,0,⟨#[]⟩,⟨#[]⟩,0,[],0,a.order,0,0,0,0)))
 (G (.inl (R,0,0,⟨#[]⟩,⟨#[]⟩,0,[],0,0,0,0,0,0)))))))):F ((Bool×Int×Int×ByteArray×ByteArray×Int×(d Int)×Int×Int×Int×Int×Int×Int)⊕Empty)) (λz8=>(.un::.be 0 0 0::.un::.be 1 0 0::vb z8.1::(U 68 []))) (λz8=>[G ⟨.of 60,13,[[K a.kind,K a.aM.label.ax,K a.aM.label.bU,vs a.aM.label.aZ,vs a.aM.ar,K a.aM.ah,.sl (a.aM.bJ.map aW),K a.aM.value,K a.order,K a.bE,K a.bG,K a.aN.bq,K a.aN.day]]⟩,G ⟨.of 60,13,[[K a.kind,K z8.2.1,K z8.2.2.1,vs z8.2.2.2.1,vs z8.2.2.2.2.1,K z8.2.2.2.2.2.1,.sl (z8.2.2.2.2.2.2.1.map aW),K z8.2.2.2.2.2.2.2.1,K z8.2.2.2.2.2.2.2.2.1,K z8.2.2.2.2.2.2.2.2.2.1,K z8.2.2.2.2.2.2.2.2.2.2.1,K z8.2.2.2.2.2.2.2.2.2.2.2.1,K z8.2.2.2.2.2.2.2.2.2.2.2.2]]⟩])).bind (bj (λz8=>
 C z8.1
 (L (mR a (⟨a.kind,(⟨(⟨z8.2.1,z8.2.2.1,z8.2.2.2.1⟩:bt),z8.2.2.2.2.1,z8.2.2.2.2.2.1,z8.2.2.2.2.2.2.1,z8.2.2.2.2.2.2.2.1⟩:aP),z8.2.2.2.2.2.2.2.2.1,z8.2.2.2.2.2.2.2.2.2.1,z8.2.2.2.2.2.2.2.2.2.2.1,(⟨z8.2.2.2.2.2.2.2.2.2.2.2.1,z8.2.2.2.2.2.2.2.2.2.2.2.2⟩:au)⟩:bk)) λy9=>
 G y9)
 (G R)) (λr=>r.elim))
instance (a:bk):CT prog (bS a):=⟨35,[.ag (fQ a)],[],λr=>vb r,λr=>[],cw (bS.eq_1 ..) func35 ntmps35 results35⟩
def eK(l:d Int):F (d Int):=
 L (cf (bn (N (([]:d Int):d Int)+N (l:d Int)) 8)) λ_=>
 G ((([]:d Int):d Int)++l)
instance (l:d Int):CT prog (eK l):=⟨74,[.sl (l.map aW)],[],λr=>.ms 0,λr=>[G ⟨.of 3,1,r.map aW⟩],cw (eK.eq_1 ..) func74 ntmps74 results74⟩
def dn(l:d Int)(s0:Int×(d Int))(s1:Int):F (Int⊕Int):=
 C (O (s1<(N s0.2:Int)))
 (L (W s0.2 s1) λy1=>
 L (W l s0.1) λy2=>
 C (O (y2<=y1))
 (G (.inl (Z (s1+1))))
 (G (.inr s1)))
 (G (.inr s1))
instance (l:d Int)(s0:Int×(d Int)):bm (dn l s0):=⟨λs1=>(.sl (l.map aW)::.un::.un::.ms 0::K s0.1::K s1::(U 39 [])),λs1=>[G ⟨.of 3,1,s0.2.map aW⟩]⟩
def jF(l:d Int)(s0:Int×(d Int)):F ((Int×(d Int))⊕(d Int)):=
 C (O (s0.1<(N l:Int)))
 ((aB (dn l s0) NN 0).bind (λo1=>
 L (cf (iq 0 o1 (N s0.2))) λ_=>
 L (eK (da s0.2 0 o1)) λy3=>
 L (W l s0.1) λy4=>
 L (cf (bn (N (y3:d Int)+N ([y4]:d Int)) 8)) λ_=>
 L (cf (iq o1 (N s0.2:Int) (N s0.2))) λ_=>
 L (cf (bn (N (((y3:d Int)++[y4]):d Int)+N ((da s0.2 o1 (N s0.2:Int)):d Int)) 8)) λ_=>
 G (.inl ((Z (s0.1+1)),((((y3:d Int)++[y4]):d Int)++(da s0.2 o1 (N s0.2:Int)))))))
 (G (.inr s0.2))
instance (l:d Int):bm (jF l):=⟨λs0=>(.sl (l.map aW)::.un::.un::.ms 0::K s0.1::(U 40 [])),λs0=>[G ⟨.of 3,1,s0.2.map aW⟩]⟩
def oS(l:d Int):F (d Int):=
 (aB (jF l) NN (0,([]:d Int))).bind (λo0=>
 G o0)
instance (l:d Int):CT prog (oS l):=⟨254,[.sl (l.map aW)],[],λr=>.ms 0,λr=>[G ⟨.of 3,1,r.map aW⟩],cw (oS.eq_1 ..) func254 ntmps254 results254⟩
def nM(l:d Int)(s0:Int):F (Int⊕(V⊕Bool)):=
 C (O (s0<(N l:Int)))
 (L (W l s0) λy1=>
 L (bh y1 1 2000) λy2=>
 C (!y2)
 (G (.inr (.inr R)))
 (G (.inl (Z (s0+1)))))
 (G (.inr (.inl ())))
instance (l:d Int):bm (nM l):=⟨λs0=>(.sl (l.map aW)::.un::.un::K s0::(U 15 [])),λs0=>[]⟩
def ku(l:d Int):F Bool:=
 (aB (nM l) NN 0).bind (bj (λo0=>
 G (O ((N l:Int)=3))) (λr=>G r))
instance (l:d Int):CT prog (ku l):=⟨206,[.sl (l.map aW)],[],λr=>vb r,λr=>[],cw (ku.eq_1 ..) func206 ntmps206 results206⟩
def oQ(bJ:d Int):F Int:=
 L (ku bJ) λy1=>
 C (!y1)
 (G 0)
 (L (oS bJ) λy2=>
 L (W y2 0) λy3=>
 L (W y2 1) λy4=>
 L (W y2 2) λy5=>
 G (Z ((Z (y3+(Z (2*y4))))+(Z (2*y5)))))
instance (bJ:d Int):CT prog (oQ bJ):=⟨207,[.sl (bJ.map aW)],[],λr=>K r,λr=>[],cw (oQ.eq_1 ..) func207 ntmps207 results207⟩
def cU(l:bt):F Bool:=
 L (bh l.ax 1 3) λy1=>
 C y1
 (L (bh l.bU 0 999999999) λy2=>
 C y2
 (L (cu l.aZ) λy3=>
 G y3)
 (G R))
 (G R)
instance (l:bt):CT prog (cU l):=⟨205,[.ag (sj l)],[],λr=>vb r,λr=>[],cw (cU.eq_1 ..) func205 ntmps205 results205⟩
def fm(p:aP):F Bool:=
 L (cU p.label) λy1=>
 C y1
 (L (cu p.ar) λy2=>
 C y2
 (C (!decide (p.ar=p.label.aZ))
 (L (bh p.ah 1 30000) λy3=>
 C y3
 (L (ku p.bJ) λy4=>
 C y4
 (L (oQ p.bJ) λy5=>
 C (O (y5<=3600))
 (L (bh p.value 0 500000) λy6=>
 G y6)
 (G R))
 (G R))
 (G R))
 (G R))
 (G R))
 (G R)
instance (p:aP):CT prog (fm p):=⟨143,[.ag (cd p)],[],λr=>vb r,λr=>[],cw (fm.eq_1 ..) func143 ntmps143 results143⟩
def fM(a:bk):F Bool:=
 (jn 2 7 (
 C (O (a.kind=1))
 (L (fm a.aM) λy1=>
 C (!y1)
 (G (.inr R))
 (G (.inl ())))
 (C (!decide (a.aM.label=(⟨0,0,⟨#[]⟩⟩:bt)))
 (G (.inr R))
 (C (!decide (a.aM.ar=⟨#[]⟩))
 (G (.inr R))
 (C (!decide (a.aM.ah=0))
 (G (.inr R))
 (C (O (0<(N a.aM.bJ:Int)))
 (G (.inr R))
 (C (!decide (a.aM.value=0))
 (G (.inr R))
 (G (.inl ()))))))):F (V⊕Bool)) (λz2=>(.un::.be 0 0 0::(U 129 []))) (λz2=>[G ⟨.of 60,13,[[K a.kind,K a.aM.label.ax,K a.aM.label.bU,vs a.aM.label.aZ,vs a.aM.ar,K a.aM.ah,.sl (a.aM.bJ.map aW),K a.aM.value,K a.order,K a.bE,K a.bG,K a.aN.bq,K a.aN.day]]⟩])).bind (bj (λz2=>
 (jn 7 8 (
 C (O (a.kind=2))
 (G (.inl Ze))
 (G (.inl (O (a.kind=6)))):F (Bool⊕Empty)) (λz3=>(.un::.be 0 0 0::.un::.un::vb z3::(U 126 []))) (λz3=>[G ⟨.of 60,13,[[K a.kind,K a.aM.label.ax,K a.aM.label.bU,vs a.aM.label.aZ,vs a.aM.ar,K a.aM.ah,.sl (a.aM.bJ.map aW),K a.aM.value,K a.order,K a.bE,K a.bG,K a.aN.bq,K a.aN.day]]⟩])).bind (bj (λz3=>
 (jn 8 10 (
 C z3
 (L (bh a.order 1 9999) λy4=>
 C (!y4)
 (G (.inr R))
 (C (!z3)
 (C (!decide (a.order=0))
 (G (.inr R))
 (G (.inl ())))
 (G (.inl ()))))
 (C (!z3)
 (C (!decide (a.order=0))
 (G (.inr R))
 (G (.inl ())))
 (G (.inl ()))):F (V⊕Bool)) (λz5=>(.un::.be 0 0 0::(U 129 []))) (λz5=>[G ⟨.of 60,13,[[K a.kind,K a.aM.label.ax,K a.aM.label.bU,vs a.aM.label.aZ,vs a.aM.ar,K a.aM.ah,.sl (a.aM.bJ.map aW),K a.aM.value,K a.order,K a.bE,K a.bG,K a.aN.bq,K a.aN.day]]⟩])).bind (bj (λz5=>
 (jn 10 12 (
 C (O (a.kind=2))
 (L (bh a.bE 1 100000) λy6=>
 C (!y6)
 (G (.inr R))
 (C (!decide (a.kind=2))
 (C (!decide (a.bE=0))
 (G (.inr R))
 (G (.inl ())))
 (G (.inl ()))))
 (C (!decide (a.kind=2))
 (C (!decide (a.bE=0))
 (G (.inr R))
 (G (.inl ())))
 (G (.inl ()))):F (V⊕Bool)) (λz7=>(.un::.be 0 0 0::(U 129 []))) (λz7=>[G ⟨.of 60,13,[[K a.kind,K a.aM.label.ax,K a.aM.label.bU,vs a.aM.label.aZ,vs a.aM.ar,K a.aM.ah,.sl (a.aM.bJ.map aW),K a.aM.value,K a.order,K a.bE,K a.bG,K a.aN.bq,K a.aN.day]]⟩])).bind (bj (λz7=>
 (jn 12 14 (
 C (O (a.kind=3))
 (L (bh a.bG 0 100000) λy8=>
 C (!y8)
 (G (.inr R))
 (C (!decide (a.kind=3))
 (C (!decide (a.bG=0))
 (G (.inr R))
 (G (.inl ())))
 (G (.inl ()))))
 (C (!decide (a.kind=3))
 (C (!decide (a.bG=0))
 (G (.inr R))
 (G (.inl ())))
 (G (.inl ()))):F (V⊕Bool)) (λz9=>(.un::.be 0 0 0::(U 129 []))) (λz9=>[G ⟨.of 60,13,[[K a.kind,K a.aM.label.ax,K a.aM.label.bU,vs a.aM.label.aZ,vs a.aM.ar,K a.aM.ah,.sl (a.aM.bJ.map aW),K a.aM.value,K a.order,K a.bE,K a.bG,K a.aN.bq,K a.aN.day]]⟩])).bind (bj (λz9=>
 (jn 14 16 (
 C (O (a.kind=4))
 (L (bh a.aN.bq 0 19) λdO=>
 C (!dO)
 (G (.inr R))
 (L (bh a.aN.day 0 60) λlJ=>
 C (!lJ)
 (G (.inr R))
 (C (!decide (a.kind=4))
 (C (!decide (a.aN=(⟨0,0⟩:au)))
 (G (.inr R))
 (G (.inl ())))
 (G (.inl ())))))
 (C (!decide (a.kind=4))
 (C (!decide (a.aN=(⟨0,0⟩:au)))
 (G (.inr R))
 (G (.inl ())))
 (G (.inl ()))):F (V⊕Bool)) (λz12=>(.un::.be 0 0 0::(U 129 []))) (λz12=>[G ⟨.of 60,13,[[K a.kind,K a.aM.label.ax,K a.aM.label.bU,vs a.aM.label.aZ,vs a.aM.ar,K a.aM.ah,.sl (a.aM.bJ.map aW),K a.aM.value,K a.order,K a.bE,K a.bG,K a.aN.bq,K a.aN.day]]⟩])).bind (bj (λz12=>
 L (bh a.kind 1 6) λqi=>
 G qi) (λr=>G r))) (λr=>G r))) (λr=>G r))) (λr=>G r))) (λr=>r.elim))) (λr=>G r))
instance (a:bk):CT prog (fM a):=⟨79,[.ag (fQ a)],[],λr=>vb r,λr=>[],cw (fM.eq_1 ..) func79 ntmps79 results79⟩
end Go.Proofs.YtbjbellffaenaaaGreatDoor
namespace Go.Proofs.YtbjbellffaenaaaGreatDoor
open Go.RowKit Go.Sort
variable {l:d Int}{n:Zo}{ο σ:Type}{body:σ->F (σ⊕ο)}{o:ο}{s:σ}
theorem HD(l:d Int):kD l=ku l:=by
 rfl
def xN(l:d Int):Bool:=l.all (λn=>O (1<=n)&&O (n<=2000))&&O ((N l:Int)=3)
theorem Ff(h:N l<NN):ku l=G (xN l):=by
 have e:aB (nM l) NN 0=G (if l.any (λn=>!(O (1<=n)&&O (n<=2000)))=Ze then .inr R else .inl ()):=by
  refine uS (λi hi=>?_) ?_ h
  ·have hx:l[i]?=G l[i]:=VS hi
   have hw:=bz hi (by unfold NN at h;omega)
   unfold nM;rw[Yi (by omega:(i:Int)<N l),aS,hx,VR,cO]
   grind
  ·unfold nM
   simp
 unfold ku xN
 grind
theorem IV{σ ο:Type}{body:σ->F (σ⊕ο)}{o:ο}:∀{n:Zo} {s:σ},aB body n s=G o->∀k,aB body (n+k) s=G o
 |0,s,h,k=>by cases h
 |n+1,s,h,k=>by
  rw[Nat.add_right_comm];unfold aB at *
  cases hb:body s with
  |none=>grind
  |some x=>
   rw[hb]at h
   cases x with
   |inl s'=>exact IV (n:=n) h k
   |inr o'=>exact h
theorem BR(h:aB body n s=G o)(hn:n<=NN):aB body NN s=G o:=by
 have:=IV h (NN-n)
 grind
theorem Dd{s s':σ}(h:body s=G (.inl s')):aB body (n+1) s=aB body n s':=by
 show(body s).bind _=_
 grind
theorem Su(h:body s=G (.inr o)):aB body (n+1) s=G o:=by
 show(body s).bind _=_
 grind
theorem w1:Z 1=1:=by decide
theorem w2:Z 2=2:=by decide
theorem w3:Z 3=3:=by decide
theorem ZmP(l:d Int)(i:Int):aB (dn l (i,[])) NN 0=G ((0:Zo):Int):=BR (n:=1) (Su YT) YF
theorem ZmQ{i y a:Int}(h:W l i=G y):aB (dn l (i,[a])) NN 0=G (((if y<=a then 1 else 0:Zo)):Int):=by
 refine BR (n:=2) ?_ YF;have q0:W [a] 0=G a:=rfl
 by_cases h1:y<=a
 ·rw[if_pos h1,Dd (s':=1) (by simp[dn,h,q0,h1,w1])];rfl
 ·rw[if_neg h1,Su (o:=0) (by simp[dn,h,q0,h1])];rfl
theorem ZmR{i y a b:Int}(h:W l i=G y):aB (dn l (i,[a,b])) NN 0=G (((if y<=a then(if y<=b then 2 else 1)else 0:Zo)):Int):=by
 refine BR (n:=3) ?_ YF;have q0:W [a,b] 0=G a:=rfl;have q1:W [a,b] 1=G b:=rfl
 by_cases h1:y<=a
 ·rw[if_pos h1,Dd (s':=1) (by simp[dn,h,q0,h1,w1])]
  by_cases h2:y<=b
  ·rw[if_pos h2,Dd (s':=2) (by simp[dn,h,q1,h2,w2])];rfl
  ·rw[if_neg h2,Su (o:=1) (by simp[dn,h,q1,h2])];rfl
 ·rw[if_neg h1,Su (o:=0) (by simp[dn,h,q0,h1])];rfl
theorem Zb9(h:N l<=1048576):eK l=G l:=by
 have c:cf (bn (N ([]:d Int)+N l) 8)=G ():=oB (Yi ⟨by grind,by grind⟩)
 unfold eK
 grind
theorem Ziy{l out:d Int}{i y:Int}{k:Zo}(hi:i<(N l:Int))(hy:W l i=G y)(hk:aB (dn l (i,out)) NN 0=G (k:Int))(hkl:k<=N out)(hl:N out<=1000):
 jF l (i,out)=G (.inl (Z (i+1),out.take k++[y]++out.drop k)):=by
 unfold jF;have t1:da out 0 (k:Int)=out.take k:=by rfl
 have t2:da out (k:Int) (N out:Int)=out.drop k:=by exact List.take_of_length_le YE
 have c1:cf (iq 0 (k:Int) (N out:Int))=G ():=oB (Yi ⟨YA,YA,YA⟩);have c2:cf (iq (k:Int) (N out:Int) (N out:Int))=G ():=oB (Yi ⟨YA,YA,YA⟩);have c3:cf (bn (N (out.take k)+N ([y]:d Int)) 8)=G ():=oB (Yi ⟨by grind,by grind⟩)
 have c4:cf (bn (N (out.take k++[y])+N (out.drop k)) 8)=G ():=oB (Yi ⟨by grind,by grind⟩)
 simp only[Yi hi,Yw,hk,VR,c1,t1,Zb9 (l:=out.take k) YD,hy,c3,c2,t2,c4]
theorem Zdv(x y z:Int):oS [x,y,z]=G (EH [x,y,z]):=by
 have g0:W [x,y,z] 0=G x:=rfl;have g1:W [x,y,z] 1=G y:=rfl;have g2:W [x,y,z] 2=G z:=rfl;have e:aB (jF [x,y,z]) NN (0,[])=G (EH [x,y,z]):=by
  refine BR (n:=4) ?_ YF;have e0:=Ziy (l:=[x,y,z]) YE g0 (ZmP _ _) (VW _) YE;have hE:∀o:d Int,jF [x,y,z] (3,o)=G (.inr o):=λo=>by rfl
  simp only[List.take_nil,List.drop_nil,List.nil_append,List.append_nil,show Z ((0:Int)+1)=1 by rfl]at e0
  have e1:=Ziy (l:=[x,y,z]) (out:=[x]) YE g1 (ZmQ g1) YD YE;simp only[show Z ((1:Int)+1)=2 by rfl]at e1
  have e2:=λa b=>Ziy (l:=[x,y,z]) (out:=[a,b]) YE g2 (ZmR g2) YD YE
  simp only[show Z ((2:Int)+1)=3 by rfl]at e2
  have hs:EH [x,y,z]=(Sort.insertionSort D3 #[x,y,z] 0 3).toList:=rfl;rw[hs];unfold Sort.insertionSort;rw[insOuter,if_pos YA,insOuter,if_pos YA,insOuter]
  by_cases h1:y<=x
  ·have LH:¬x<y:=YA
   rw[if_pos h1]at e1
   have BB:=e2 x y
   by_cases h2:z<=x
   ·by_cases h3:z<=y
    ·rw[if_pos h2,if_pos h3]at BB
     simp at e1 BB
     rw[Dd e0,Dd e1,Dd BB,Su (hE _)];simp[insInner,D3,LH,show ¬y<z by omega]
    ·rw[if_pos h2,if_neg h3]at BB
     simp at e1 BB
     rw[Dd e0,Dd e1,Dd BB,Su (hE _)];simp[insInner,swp,D3,LH,show y<z by omega,show ¬x<z by omega]
   ·rw[if_neg h2]at BB
    simp at e1 BB
    rw[Dd e0,Dd e1,Dd BB,Su (hE _)];simp[insInner,swp,D3,LH,show y<z by omega,show x<z by omega]
  ·have LH:x<y:=YA
   rw[if_neg h1]at e1
   have BB:=e2 y x
   by_cases h2:z<=y
   ·by_cases h3:z<=x
    ·rw[if_pos h2,if_pos h3]at BB
     simp at e1 BB
     rw[Dd e0,Dd e1,Dd BB,Su (hE _)];simp[insInner,swp,D3,LH,show ¬x<z by omega]
    ·rw[if_pos h2,if_neg h3]at BB
     simp at e1 BB
     rw[Dd e0,Dd e1,Dd BB,Su (hE _)];simp[insInner,swp,D3,LH,show x<z by omega,show ¬y<z by omega]
   ·rw[if_neg h2]at BB
    simp at e1 BB
    rw[Dd e0,Dd e1,Dd BB,Su (hE _)];simp[insInner,swp,D3,LH,show y<z by omega,show x<z by omega]
 unfold oS
 grind
theorem DJ(h:xN l=Ze):N l=3:=by
 unfold xN at h
 grind
theorem M3(h:N l<NN):qD l=oQ l/\∃b,oQ l=G b:=by
 unfold qD oQ;rw[HD,Ff h]
 cases ht:xN l with
 |false=>simp
 |true=>
  have h3:=DJ ht
  match l,h3 with
  | [x,y,z],_=>
   have hm:oH [x,y,z]=G (EH [x,y,z]):=if_pos rfl;have hl:=O2 [x,y,z]
   match hs:EH [x,y,z],hl with
   | [a,b,c],_=>
    simp only[Zdv,hm,hs];exact⟨trivial,_,rfl⟩
theorem Gu{l:bt}(h:l.aZ.size<=uY):km l=cU l/\∃b,cU l=G b:=by
 obtain⟨e,b,hb⟩:=pn h;unfold km cU;rw[gV,e,hb,cO,cO]
 grind
theorem wX{p:aP}(h1:p.label.aZ.size<=uY)(h2:p.ar.size<=uY)(h3:N p.bJ<NN):iv p=fm p/\∃b,fm p=G b:=by
 obtain⟨e1,b1,qV⟩:=Gu h1;obtain⟨e2,b2,yb⟩:=pn h2;obtain⟨e3,b3,hb3⟩:=M3 h3;unfold iv fm;rw[gV,e3,HD,Ff h3,cO,cO]
 grind
theorem ZiI{a b:d Int}(h:N a<NN):fY a b=G (O (a=b)):=by
 unfold fY
 by_cases hl:N a=N b
 ·have e:aB (jA a b) NN 0=G (if(List.range (N a)).all (λi=>O (a[i]?=b[i]?))=Ze then .inl ()else .inr R):=by
   refine qB (λi hi _=>?_) (λ_=>?_) h
   ·have hx:a[i]?=G a[i]:=VS hi
    have hy:b[i]?=G b[i]:=VS YA;have hw:=bz hi (by unfold NN at h;omega)
    unfold jA;rw[Yi (by omega:(i:Int)<N a),aS,aS,hx,hy]
    grind
   ·unfold jA
    simp
  rw[Yi (by omega:(N a:Int)=N b),e]
  by_cases C2:a=b
  ·grind
  ·rw[if_neg,Yt C2]
   ·rfl
   ·intro wi
    refine C2 (List.ext_getElem? λi=>?_)
    grind
 ·rw[Yt (by omega:¬((N a:Int)=N b)),Yt (λe=>hl Zb)]
  rfl
theorem nf{ο α:Type}(i j:Zo)(J:F (ο⊕α))(T:ο->d PV)(M:ο->Mem):jn i j J T M=J:=by unfold jn;rfl
theorem Zht(b c:Bool):(bif b then G c else G R)=G (b&&c):=by grind
theorem ZlZ(b c:Bool):(bif !b then G R else G c)=G (b&&c):=by grind
theorem PT{α β:Type}(b:Bool)(X Y:F α)(S:α->F β):(bif b then X else Y).bind S=bif b then X.bind S else Y.bind S:=by grind
theorem Ag{a b:aP}(h:N a.bJ<NN):j3 a b=G (O (a.label=b.label)&&(O (a.ar=b.ar)&&(O (a.ah=b.ah)&&(O (a.bJ=b.bJ)&&O (a.value=b.value))))):=by
 unfold j3;simp only[ZiI h,VR,Zht]
theorem xH{a b:bk}(h:N a.aM.bJ<NN):mR a b=G (O (a.kind=b.kind)&&((O (a.aM.label=b.aM.label)&&(O (a.aM.ar=b.aM.ar)&&(O (a.aM.ah=b.aM.ah)&&(O (a.aM.bJ=b.aM.bJ)&&O (a.aM.value=b.aM.value)))))&&(O (a.order=b.order)&&(O (a.bE=b.bE)&&(O (a.bG=b.bG)&&O (a.aN=b.aN)))))):=by
 unfold mR;simp only[Ag h,VR,Zht]
theorem Ft{a:bk}(h1:a.aM.label.aZ.size<=uY)(h2:a.aM.ar.size<=uY)(h3:N a.aM.bJ<NN):∃b,bS a=G b/\fM a=G b:=by
 obtain⟨e1,b1,qV⟩:=wX h1 h2 h3;have hz:O (0<(N a.aM.bJ:Int))=!decide (a.aM.bJ=[]):=by
  cases a.aM.bJ<;>simp
 unfold bS fM;simp only[nf,gV,e1,qV,cO,xH h3,hz];generalize hq1:O (a.aM.label=⟨0,0,⟨#[]⟩⟩)=q1;generalize hq2:O (a.aM.ar=⟨#[]⟩)=q2;generalize hq3:O (a.aM.ah=0)=q3;generalize hq4:O (a.aM.bJ=[])=q4;generalize hq5:O (a.aM.value=0)=q5;generalize hq6:O (a.order=0)=q6;generalize hq7:O (a.bE=0)=q7;generalize hq8:O (a.bG=0)=q8;generalize hq9:O (a.aN=⟨0,0⟩)=q9;have kk:a.kind=1\/a.kind=2\/a.kind=3\/a.kind=4\/a.kind=5\/a.kind=6\/(a.kind≠1/\a.kind≠2/\a.kind≠3/\a.kind≠4/\a.kind≠5/\a.kind≠6):=YA
 rcases kk with k|k|k|k|k|k|⟨n1,n2,n3,n4,n5,n6⟩
 all_goals try(simp only[n1,n2,n3,n4,n5,n6,Int.reduceEq,decide_true,decide_false,Bool.not_true,Bool.not_false,Yw,Yx,VR,bj,PT])
 all_goals try simp only[k,Int.reduceEq,decide_true,decide_false,Bool.not_true,Bool.not_false,Yw,Yx,VR,bj,PT]
 case inr.inr.inr.inr.inr.inr=>
  have hf:(O (1<=a.kind)&&O (a.kind<=6))=false:=by
   grind
  grind
 all_goals
  simp only[hq1,hq2,hq3,hq4,hq5,hq6,hq7,hq8,hq9,Zht,ZlZ,Bool.true_and,Bool.and_true,Int.reduceLE,decide_true];exact⟨_,rfl,by congr 1;try ac_rfl⟩
end Go.Proofs.YtbjbellffaenaaaGreatDoor
namespace Go.Proofs.YtbjbellffaenaaaGreatDoor
open Go.RowKit
def sP(l:bP):F Bool:=
 L (eT l.ar) λy1=>
 C y1
 (L (eT l.aZ) λy2=>
 C y2
 (C (!decide (l.ar=l.aZ))
 (L (ba l.start 0 1439) λy3=>
 C y3
 (L (ba l.o8 1 4320) λy4=>
 C y4
 (L (ba l.yr 1 127) λy5=>
 C y5
 (L (ba l.jb 0 1000000) λy6=>
 G y6)
 (G R))
 (G R))
 (G R))
 (G R))
 (G R))
 (G R)
instance (l:bP):CT prog (sP l):=⟨168,[.ag (cY l)],[],λr=>vb r,λr=>[],cw (sP.eq_1 ..) func168 ntmps168 results168⟩
def og(n:ab)(s0:Int):F (Int⊕(V⊕Bool)):=
 C (O (s0<(N n.aC:Int)))
 (L (W n.aC s0) λy1=>
 L (sP y1) λy2=>
 C (!y2)
 (G (.inr (.inr R)))
 (G (.inl (Z (s0+1)))))
 (G (.inr (.inl ())))
instance (n:ab):bm (og n):=⟨λs0=>(.un::.be 0 0 0::(U 6 (.sl (n.aC.map cY)::K (N n.aC:Int)::K s0::(U 48 [])))),λs0=>[G ⟨.of 27,3,[aT n]⟩]⟩
def oh(n:ab)(s1:Int):F (Int⊕(V⊕Bool)):=
 C (O (s1<(N n.off:Int)))
 (L (W n.off s1) λy3=>
 L (ba y3 0 60) λy4=>
 C (!y4)
 (G (.inr (.inr R)))
 (C (O (0<s1))
 (L (W n.off (Z (s1-1))) λy5=>
 C (O (y3<=y5))
 (G (.inr (.inr R)))
 (G (.inl (Z (s1+1)))))
 (G (.inl (Z (s1+1))))))
 (G (.inr (.inl ())))
instance (n:ab):bm (oh n):=⟨λs1=>(.un::.be 0 0 0::(U 17 (.sl (n.off.map aW)::K (N n.off:Int)::K s1::(U 37 [])))),λs1=>[G ⟨.of 27,3,[aT n]⟩]⟩
def dy(n:ab):F Bool:=
 (aB (og n) NN 0).bind (bj (λo0=>
 (aB (oh n) NN 0).bind (bj (λo1=>
 C (O ((N n.aC:Int)<=20))
 (C (O ((N n.off:Int)<=10))
 (L (ba n.change 0 240) λy6=>
 G y6)
 (G R))
 (G R)) (λr=>G r))) (λr=>G r))
instance (n:ab):CT prog (dy n):=⟨102,[.ag (aT n)],[],λr=>vb r,λr=>[],cw (dy.eq_1 ..) func102 ntmps102 results102⟩
def vY(places:d ByteArray)(s:ByteArray)(s0:Int):F (Int⊕(V⊕Int)):=
 C (O (s0<(N places:Int)))
 (L (W places s0) λy1=>
 C (O (y1=s))
 (G (.inr (.inr s0)))
 (G (.inl (Z (s0+1)))))
 (G (.inr (.inl ())))
instance (places:d ByteArray)(s:ByteArray):bm (vY places s):=⟨λs0=>(.un::vs s::(U 5 (.sl (places.map jQ)::K (N places:Int)::K s0::(U 9 [])))),λs0=>[]⟩
def bQ(places:d ByteArray)(s:ByteArray):F Int:=
 (aB (vY places s) NN 0).bind (bj (λo0=>
 G (-1)) (λr=>G r))
instance (places:d ByteArray)(s:ByteArray):CT prog (bQ places s):=⟨103,[.sl (places.map jQ),vs s],[],λr=>K r,λr=>[],cw (bQ.eq_1 ..) func103 ntmps103 results103⟩
def lN(l:d cB)(s0:Int):F (Int⊕(V⊕Bool)):=
 C (O (s0<(N l:Int)))
 ((jn 3 6 (
 L (W l s0) λy1=>
 L (eT y1.first) λy2=>
 C (!y2)
 (G (.inr R))
 (L (eT y1.last) λy3=>
 C (!y3)
 (G (.inr R))
 (C (!Rs y1.first y1.last)
 (G (.inr R))
 (C (O (0<s0))
 (L (W l (Z (s0-1))) λy4=>
 C (Rs y1.first y4.last)
 (G (.inr R))
 (G (.inl ())))
 (G (.inl ()))))):F (V⊕Bool)) (λz5=>(.sl (l.map dV)::(U 4 (.sl (l.map dV)::K (N l:Int)::K s0::(U 40 []))))) (λz5=>[])).bind (bj (λz5=>
 G (.inl (Z (s0+1)))) (λr=>G (.inr (.inr r)))))
 (G (.inr (.inl ())))
instance (l:d cB):bm (lN l):=⟨λs0=>(.sl (l.map dV)::(U 4 (.sl (l.map dV)::K (N l:Int)::K s0::(U 40 [])))),λs0=>[]⟩
def kI(l:d cB):F Bool:=
 (aB (lN l) NN 0).bind (bj (λo0=>
 G (O ((N l:Int)<=8))) (λr=>G r))
instance (l:d cB):CT prog (kI l):=⟨29,[.sl (l.map dV)],[],λr=>vb r,λr=>[],cw (kI.eq_1 ..) func29 ntmps29 results29⟩
def ra(l:d cB)(dw:ByteArray)(s0:Int):F (Int⊕(V⊕Int)):=
 C (O (s0<(N l:Int)))
 ((jn 5 8 (
 L (W l s0) λy3=>
 C (Rs y3.first dw)
 (C (Rs dw y3.last)
 (G (.inr s0))
 (G (.inl ())))
 (G (.inl ())):F (V⊕Int)) (λz4=>(.un::vs dw::(U 13 (.sl (l.map dV)::K (N l:Int)::K s0::(U 16 []))))) (λz4=>[])).bind (bj (λz4=>
 G (.inl (Z (s0+1)))) (λr=>G (.inr (.inr r)))))
 (G (.inr (.inl ())))
instance (l:d cB)(dw:ByteArray):bm (ra l dw):=⟨λs0=>(.un::vs dw::(U 13 (.sl (l.map dV)::K (N l:Int)::K s0::(U 16 [])))),λs0=>[]⟩
def rK(l:d cB)(dw:ByteArray):F Int:=
 L (kI l) λy1=>
 C (!y1)
 (G (-1))
 (L (eT dw) λy2=>
 C (!y2)
 (G (-1))
 ((aB (ra l dw) NN 0).bind (bj (λo0=>
 G (-1)) (λr=>G r))))
instance (l:d cB)(dw:ByteArray):CT prog (rK l dw):=⟨99,[.sl (l.map dV),vs dw],[],λr=>K r,λr=>[],cw (rK.eq_1 ..) func99 ntmps99 results99⟩
def pP(bJ:d Int):F Int:=
 L (kD bJ) λy1=>
 C (!y1)
 (G 0)
 (L (W bJ 0) λy2=>
 L (W bJ 1) λy3=>
 L (W bJ 2) λy4=>
 G (Z ((Z (y2*y3))*y4)))
instance (bJ:d Int):CT prog (pP bJ):=⟨165,[.sl (bJ.map aW)],[],λr=>K r,λr=>[],cw (pP.eq_1 ..) func165 ntmps165 results165⟩
def jy(p:aP):F Int:=
 L (iv p) λy1=>
 C (!y1)
 (G 0)
 (L (pP p.bJ) λy2=>
 G (if(IntKind.i64.wrap (Int.tdiv (Z (y2+4999)) 5000)) > p.ah then(IntKind.i64.wrap (Int.tdiv (Z (y2+4999)) 5000))else p.ah))
instance (p:aP):CT prog (jy p):=⟨100,[.ag (cd p)],[],λr=>K r,λr=>[],cw (jy.eq_1 ..) func100 ntmps100 results100⟩
def mc(l:d cB)(s0:Int):F (Int⊕(V⊕Bool)):=
 C (O (s0<(N l:Int)))
 ((jn 4 3 (
 L (W l s0) λy1=>
 L (cu y1.first) λy2=>
 C (!y2)
 (G (.inr R))
 (L (W l s0) λy3=>
 L (cu y3.last) λy4=>
 C (!y4)
 (G (.inr R))
 (L (W l s0) λy5=>
 L (W l s0) λy6=>
 C (!Rs y5.first y6.last)
 (G (.inr R))
 (C (O (0<s0))
 (L (W l (Z (s0-1))) λy7=>
 L (W l s0) λy8=>
 C (!tf y7.last y8.first)
 (G (.inr R))
 (G (.inl ())))
 (G (.inl ()))))):F (V⊕Bool)) (λz9=>(.sl (l.map dV)::.un::.un::K s0::(U 56 []))) (λz9=>[])).bind (bj (λz9=>
 G (.inl (Z (s0+1)))) (λr=>G (.inr (.inr r)))))
 (G (.inr (.inl ())))
instance (l:d cB):bm (mc l):=⟨λs0=>(.sl (l.map dV)::.un::.un::K s0::(U 56 [])),λs0=>[]⟩
def kM(l:d cB):F Bool:=
 (aB (mc l) NN 0).bind (bj (λo0=>
 G (O ((N l:Int)<=8))) (λr=>G r))
instance (l:d cB):CT prog (kM l):=⟨138,[.sl (l.map dV)],[],λr=>vb r,λr=>[],cw (kM.eq_1 ..) func138 ntmps138 results138⟩
def qM(a:bH)(b:bH):F Bool:=
 C (O (a.pG<b.pG))
 (G Ze)
 (C (O (b.pG=a.pG))
 (C (O (a.ax<b.ax))
 (G Ze)
 (C (O (b.ax=a.ax))
 (C (O (a.qo<b.qo))
 (G (O (a.nQ<=b.nQ)))
 (G R))
 (G R)))
 (G R))
instance (a:bH)(b:bH):CT prog (qM a b):=⟨201,[.ag (dK a),.ag (dK b)],[],λr=>vb r,λr=>[],cw (qM.eq_1 ..) func201 ntmps201 results201⟩
def ma(l:d bH)(bb:Int)(s0:Int):F (Int⊕(V⊕Bool)):=
 C (O (s0<(N l:Int)))
 ((jn 4 3 (
 L (W l s0) λy1=>
 C (O (y1.pG<0))
 (G (.inr R))
 (L (W l s0) λy2=>
 C (O (bb<=y2.pG))
 (G (.inr R))
 (L (W l s0) λy3=>
 L (bh y3.ax 1 3) λy4=>
 C (!y4)
 (G (.inr R))
 (L (W l s0) λy5=>
 L (bh y5.qo 1 1000000000) λy6=>
 C (!y6)
 (G (.inr R))
 (L (W l s0) λy7=>
 L (bh y7.nQ 0 100000) λy8=>
 C (!y8)
 (G (.inr R))
 (C (O (0<s0))
 (L (W l (Z (s0-1))) λy9=>
 L (W l s0) λdO=>
 L (qM y9 dO) λlJ=>
 C (!lJ)
 (G (.inr R))
 (G (.inl ())))
 (G (.inl ()))))))):F (V⊕Bool)) (λz12=>(.sl (l.map dK)::K bb::(U 3 (K s0::(U 68 []))))) (λz12=>[])).bind (bj (λz12=>
 G (.inl (Z (s0+1)))) (λr=>G (.inr (.inr r)))))
 (G (.inr (.inl ())))
instance (l:d bH)(bb:Int):bm (ma l bb):=⟨λs0=>(.sl (l.map dK)::K bb::(U 3 (K s0::(U 68 [])))),λs0=>[]⟩
def mW(l:d bH)(bb:Int):F Bool:=
 (aB (ma l bb) NN 0).bind (bj (λo0=>
 G (O ((N l:Int)<=24))) (λr=>G r))
instance (l:d bH)(bb:Int):CT prog (mW l bb):=⟨139,[.sl (l.map dK),K bb],[],λr=>vb r,λr=>[],cw (mW.eq_1 ..) func139 ntmps139 results139⟩
def j9(l:d cB)(dw:ByteArray)(s0:Int):F (Int⊕(V⊕Int)):=
 C (O (s0<(N l:Int)))
 ((jn 6 5 (
 L (W l s0) λy3=>
 C (Rs y3.first dw)
 (L (W l s0) λy4=>
 C (Rs dw y4.last)
 (G (.inr s0))
 (G (.inl ())))
 (G (.inl ())):F (V⊕Int)) (λz5=>(.sl (l.map dV)::vs dw::(U 3 (K s0::(U 31 []))))) (λz5=>[])).bind (bj (λz5=>
 G (.inl (Z (s0+1)))) (λr=>G (.inr (.inr r)))))
 (G (.inr (.inl ())))
instance (l:d cB)(dw:ByteArray):bm (j9 l dw):=⟨λs0=>(.sl (l.map dV)::vs dw::(U 3 (K s0::(U 31 [])))),λs0=>[]⟩
def qh(l:d cB)(dw:ByteArray):F Int:=
 L (kM l) λy1=>
 C (!y1)
 (G (-1))
 (L (cu dw) λy2=>
 C (!y2)
 (G (-1))
 ((aB (j9 l dw) NN 0).bind (bj (λo0=>
 G (-1)) (λr=>G r))))
instance (l:d cB)(dw:ByteArray):CT prog (qh l dw):=⟨252,[.sl (l.map dV),vs dw],[],λr=>K r,λr=>[],cw (qh.eq_1 ..) func252 ntmps252 results252⟩
def mY(bJ:d Int):F Int:=
 L (ku bJ) λy1=>
 C (!y1)
 (G 0)
 (L (W bJ 0) λy2=>
 L (W bJ 1) λy3=>
 L (W bJ 2) λy4=>
 G (Z ((Z (y2*y3))*y4)))
instance (bJ:d Int):CT prog (mY bJ):=⟨304,[.sl (bJ.map aW)],[],λr=>K r,λr=>[],cw (mY.eq_1 ..) func304 ntmps304 results304⟩
def ib(p:aP):F Int:=
 L (fm p) λy1=>
 C (!y1)
 (G 0)
 (L (mY p.bJ) λy2=>
 C (O (p.ah<(IntKind.i64.wrap (Int.tdiv (Z (y2+4999)) 5000))))
 (G (IntKind.i64.wrap (Int.tdiv (Z (y2+4999)) 5000)))
 (G p.ah))
instance (p:aP):CT prog (ib p):=⟨253,[.ag (cd p)],[],λr=>K r,λr=>[],cw (ib.eq_1 ..) func253 ntmps253 results253⟩
def jt(bd:d bH)(p:aP)(y4:Int)(s0:Int):F (Int⊕(V⊕(Int×Bool))):=
 C (O (s0<(N bd:Int)))
 ((jn 7 6 (
 L (W bd s0) λy5=>
 C (O (y5.pG=y4))
 (L (W bd s0) λy6=>
 C (O (y6.ax=p.label.ax))
 (L (ib p) λy7=>
 L (W bd s0) λy8=>
 C (O (y7<=y8.qo))
 (L (W bd s0) λy9=>
 G (.inr (y9.nQ,Ze)))
 (G (.inl ())))
 (G (.inl ())))
 (G (.inl ())):F (V⊕(Int×Bool))) (λz10=>(.un::.sl (bd.map dK)::(U 3 (.be 0 0 0::.un::.un::K y4::K s0::(U 59 []))))) (λz10=>[G ⟨.of 58,7,[[K p.label.ax,K p.label.bU,vs p.label.aZ,vs p.ar,K p.ah,.sl (p.bJ.map aW),K p.value]]⟩])).bind (bj (λz10=>
 G (.inl (Z (s0+1)))) (λr=>G (.inr (.inr r)))))
 (G (.inr (.inl ())))
instance (bd:d bH)(p:aP)(y4:Int):bm (jt bd p y4):=⟨λs0=>(.un::.sl (bd.map dK)::(U 3 (.be 0 0 0::.un::.un::K y4::K s0::(U 59 [])))),λs0=>[G ⟨.of 58,7,[[K p.label.ax,K p.label.bU,vs p.label.aZ,vs p.ar,K p.ah,.sl (p.bJ.map aW),K p.value]]⟩]⟩
def js(bb:d cB)(bd:d bH)(p:aP):F (Int×Bool):=
 L (kM bb) λy1=>
 C (!y1)
 (G (0,R))
 (L (mW bd (N bb:Int)) λy2=>
 C (!y2)
 (G (0,R))
 (L (fm p) λy3=>
 C (!y3)
 (G (0,R))
 (L (qh bb p.label.aZ) λy4=>
 (aB (jt bd p y4) NN 0).bind (bj (λo0=>
 G (0,R)) (λr=>G r)))))
instance (bb:d cB)(bd:d bH)(p:aP):CT prog (js bb bd p):=⟨204,[.sl (bb.map dV),.sl (bd.map dK),.ag (cd p)],[],λr=>.tu [K r.1,vb r.2],λr=>[],cw (js.eq_1 ..) func204 ntmps204 results204⟩
def wU(l:d Int)(n:Int)(s0:Int):F (Int⊕(V⊕Bool)):=
 C (O (s0<(N l:Int)))
 (L (W l s0) λy1=>
 C (O (y1=n))
 (G (.inr (.inr Ze)))
 (G (.inl (Z (s0+1)))))
 (G (.inr (.inl ())))
instance (l:d Int)(n:Int):bm (wU l n):=⟨λs0=>(.un::K n::(U 5 (.sl (l.map aW)::K (N l:Int)::K s0::(U 7 [])))),λs0=>[]⟩
def rL(l:d Int)(n:Int):F Bool:=
 (aB (wU l n) NN 0).bind (bj (λo0=>
 G R) (λr=>G r))
instance (l:d Int)(n:Int):CT prog (rL l n):=⟨107,[.sl (l.map aW),K n],[],λr=>vb r,λr=>[],cw (rL.eq_1 ..) func107 ntmps107 results107⟩
def gZ(l:d aq):F (d aq):=
 L (cf (bn (N (([]:d aq):d aq)+N (l:d aq)) 32)) λ_=>
 G ((([]:d aq):d aq)++l)
instance (l:d aq):CT prog (gZ l):=⟨156,[.sl (l.map aG)],[],λr=>.ms 0,λr=>[G ⟨.of 50,4,r.map aG⟩],cw (gZ.eq_1 ..) func156 ntmps156 results156⟩
def eQ(l:d au):F (d au):=
 L (cf (bn (N (([]:d au):d au)+N (l:d au)) 16)) λ_=>
 G ((([]:d au):d au)++l)
instance (l:d au):CT prog (eQ l):=⟨157,[.sl (l.map bg)],[],λr=>.ms 0,λr=>[G ⟨.of 48,2,r.map bg⟩],cw (eQ.eq_1 ..) func157 ntmps157 results157⟩
def kq(n:ab):F ab:=
 L (cf (bn (N (([]:d bP):d bP)+N (n.aC:d bP)) 64)) λ_=>
 L (cf (bn (N (([]:d Int):d Int)+N (n.off:d Int)) 8)) λ_=>
 G (⟨((([]:d bP):d bP)++n.aC),((([]:d Int):d Int)++n.off),n.change⟩:ab)
instance (n:ab):CT prog (kq n):=⟨155,[.ag (aT n)],[],λr=>.ag [.ms 0,.ms 1,K r.change],λr=>[G ⟨.of 101,6,r.aC.map cY⟩,G ⟨.of 3,1,r.off.map aW⟩],cw (kq.eq_1 ..) func155 ntmps155 results155⟩
def bO(l:d bf):F (d bf):=
 L (cf (bn (N (([]:d bf):d bf)+N (l:d bf)) 32)) λ_=>
 G ((([]:d bf):d bf)++l)
instance (l:d bf):CT prog (bO l):=⟨88,[.sl (l.map bV)],[],λr=>.ms 0,λr=>[G ⟨.of 82,4,r.map bV⟩],cw (bO.eq_1 ..) func88 ntmps88 results88⟩
def nV(x:bf):F Bool:=
 L (ba x.order 1 9999) λy1=>
 C y1
 (L (ba x.kind 1 3) λy2=>
 C y2
 (L (ba x.bE 1 100000) λy3=>
 C y3
 (L (ba x.aQ 0 100000) λy4=>
 G y4)
 (G R))
 (G R))
 (G R)
instance (x:bf):CT prog (nV x):=⟨97,[.ag (bV x)],[],λr=>vb r,λr=>[],cw (nV.eq_1 ..) func97 ntmps97 results97⟩
def r8(l:d bf)(order:Int)(kind:Int)(s0:Int×Int):F ((Int×Int)⊕Int):=
 C (O (s0.2<(N l:Int)))
 ((jn 4 7 (
 L (W l s0.2) λy1=>
 C (O (y1.order=order))
 (C (O (y1.kind=kind))
 (G (.inl (Z (s0.1+y1.bE))))
 (G (.inl s0.1)))
 (G (.inl s0.1)):F (Int⊕Empty)) (λz2=>(.un::K order::K kind::(U 4 (K z2::.un::.un::.sl (l.map bV)::K (N l:Int)::K s0.2::(U 19 []))))) (λz2=>[])).bind (bj (λz2=>
 G (.inl (z2,(Z (s0.2+1))))) (λr=>r.elim)))
 (G (.inr s0.1))
instance (l:d bf)(order:Int)(kind:Int):bm (r8 l order kind):=⟨λs0=>(.un::K order::K kind::(U 4 (K s0.1::.un::.un::.sl (l.map bV)::K (N l:Int)::K s0.2::(U 19 [])))),λs0=>[]⟩
def dL(l:d bf)(order:Int)(kind:Int):F Int:=
 (aB (r8 l order kind) NN (0,0)).bind (λo0=>
 G o0)
def Ie(l:d bf)(order:Int)(kind:Int){r:Int}(H:dL l order kind=G r):eh prog 34 [.sl (l.map bV),K order,K kind] [] (K r) []:=by
 replace H:=H0 H;unfold dL at H
 refine je func34 rfl ntmps34 results34 λQ hQ Kf=>?_
 exact LA
instance (l:d bf)(order:Int)(kind:Int):CT prog (dL l order kind):=⟨34,[.sl (l.map bV),K order,K kind],[],λr=>K r,λr=>[],Ie l order kind⟩
def iC(l:d bf)(s0:Int):F (Int⊕(V⊕Bool)):=
 C (O (s0<(N l:Int)))
 ((jn 5 20 (
 L (W l s0) λy1=>
 (jn 6 8 (
 L (nV y1) λy2=>
 C (!y2)
 (G (.inr R))
 (C (O (0<s0))
 (L (W l (Z (s0-1))) λy3=>
 C (O (y1.aQ<y3.aQ))
 (G (.inr R))
 (G (.inl ())))
 (G (.inl ()))):F (V⊕Bool)) (λz4=>(.sl (l.map bV)::.un::.un::K s0::.be 0 0 0::(U 5 (.sl (l.map bV)::K (N l:Int)::K s0::(U 69 []))))) (λz4=>[G ⟨.of 82,4,[[K y1.order,K y1.kind,K y1.bE,K y1.aQ]]⟩])).bind (bj (λz4=>
 L (cf (iq 0 s0 (N l))) λ_=>
 L (dL (da l 0 s0) y1.order 1) λy5=>
 L (cf (iq 0 s0 (N l))) λ_=>
 L (dL (da l 0 s0) y1.order 2) λy6=>
 C (O (y1.kind=1))
 (C (O (0<y5))
 (G (.inr R))
 (G (.inl ())))
 (C (O (y1.kind=2))
 (C (O (y5<(Z (y6+y1.bE))))
 (G (.inr R))
 (G (.inl ())))
 (C (O (y1.kind=3))
 (L (cf (iq 0 s0 (N l))) λ_=>
 L (dL (da l 0 s0) y1.order 3) λy7=>
 C (O (0<y7))
 (G (.inr R))
 (C (!decide (y6=y5))
 (G (.inr R))
 (C (O (y5<y1.bE))
 (G (.inr R))
 (G (.inl ())))))
 (G (.inl ()))))) (λr=>G (.inr r))):F (V⊕Bool)) (λz8=>(.sl (l.map bV)::(U 9 (.sl (l.map bV)::K (N l:Int)::K s0::(U 69 []))))) (λz8=>[])).bind (bj (λz8=>
 G (.inl (Z (s0+1)))) (λr=>G (.inr (.inr r)))))
 (G (.inr (.inl ())))
instance (l:d bf):bm (iC l):=⟨λs0=>(.sl (l.map bV)::(U 9 (.sl (l.map bV)::K (N l:Int)::K s0::(U 69 [])))),λs0=>[]⟩
def eP(l:d bf):F Bool:=
 C (O (200<(N l:Int)))
 (G R)
 ((aB (iC l) NN 0).bind (bj (λo0=>
 G Ze) (λr=>G r)))
def Dk(l:d bf){r:Bool}(H:eP l=G r):eh prog 32 [.sl (l.map bV)] [] (vb r) []:=by
 replace H:=H0 H;unfold eP at H
 refine je func32 rfl ntmps32 results32 λQ hQ Kf=>?_
 exact LA
instance (l:d bf):CT prog (eP l):=⟨32,[.sl (l.map bV)],[],λr=>vb r,λr=>[],Dk l⟩
def lY(l:d bf)(x:bf):F ((d bf)×Int):=
 C (O (200<=(N l:Int)))
 (L (bO l) λy1=>
 G (y1,5))
 (L (bO l) λy2=>
 L (cf (bn (N (y2:d bf)+N ([x]:d bf)) 32)) λ_=>
 L (eP ((y2:d bf)++[x])) λy3=>
 C (!y3)
 (L (bO l) λy4=>
 G (y4,1))
 (G (((y2:d bf)++[x]),0)))
instance (l:d bf)(x:bf):CT prog (lY l x):=⟨179,[.sl (l.map bV),.ag (bV x)],[],λr=>.tu [.ms 0,K r.2],λr=>[G ⟨.of 82,4,r.1.map bV⟩],cw (lY.eq_1 ..) func179 ntmps179 results179⟩
def de(l:d UInt8):ByteArray:=⟨l.toArray⟩
def bM(l:d UInt8):(de l).size=N l:=by simp[de,ByteArray.size]
