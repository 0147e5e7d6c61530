/- A part of the proof of the statement in the last file of this claim: texts on the language of the program and on its functions. No condition. -/
import Derived.Test.YtdilaemengjipaaGreatDoorCA30
import Derived.Test.YtdilaemengjipaaGreatDoorCA4
import Derived.Test.YtdilaemengjipaaGreatDoorCA8
import Derived.Test.YtdilaemengjipaaGreatDoorCA7
import Derived.Test.YtdilaemengjipaaGreatDoorCA16
import Derived.Test.YtdilaemengjipaaGreatDoorCA10
import Derived.Test.YtdilaemengjipaaGreatDoorCA21
import Derived.Test.YtdilaemengjipaaGreatDoorCA17
import Derived.Test.YtdilaemengjipaaGreatDoorCA9
import Derived.Test.YtdilaemengjipaaGreatDoorCA1
set_option linter.unusedVariables false
set_option linter.unusedSimpArgs false
set_option linter.unusedSectionVars false
open Go.Value renaming int->YM
open Go.IntKind renaming i64->YN
open Go renaming undef->YO
open Option renaming some->YH,none->YI
open Bool renaming true->YJ,false->YK
open Decidable renaming decide->YL
open Go.Proofs.Tryz
set_option maxHeartbeats 40000000
open Nat renaming lt_of_lt_of_le->WT,le_refl->VX,le_trans->Wq,zero_add->We
open List renaming getElem?_eq_getElem->VU,length_cons->VZ,length_nil->VY,take_succ_eq_append_getElem->XJ,mem_of_getElem?->VV,getElem_mem->Wm,length_append->V3,getElem?_eq_some_iff->VT,length_set->WI,any_eq_true->W7,mem_append_left->Xc
open Bool renaming and_eq_true->V6,not_true->V5,not_eq_true'->WG,and_eq_false_imp->Xx
open _root_.Array renaming getElem?_eq_getElem->V8
open Option renaming bind_some->VS
open Option.some renaming inj->VW
open _root_.Int renaming toNat->Wd,toNat_natCast->WQ
namespace Go.Proofs.YtdilaemengjipaaGreatDoor
set_option maxRecDepth 10000
open Go.RowKit Go.Lib Go.Sort
set_option maxRecDepth 100000
theorem AQ{w w':World}{b o:Nat}{v:Value}(h:w.cell? ⟨b,o,YI⟩=YH v)(hb:b<w.heap.size)(hu:Up w w'):w'.cell? ⟨b,o,YI⟩=YH v:=(hu.cell (p:=⟨b,o,YI⟩) hb).trans h
theorem ZaF{w W:World}{O:Nat->Prop}(h:Dn w O)(hu:Up w W){B:Nat}(hB:w.heap.size<=B):Dn W (λb=>B<=b):=by
 obtain⟨T,h1,h2⟩:=h;exact⟨T,λb hb=>⟨WT (h1 b hb).1 hu.size,λh=>by have:=(h1 b hb).1;omega⟩,λw'' Zca=>h2 w'' λb hb=>(Zca b hb).trans (hu.block b (h1 b hb).1)⟩
theorem Sm{w:World}{B Bx:Nat}{v v':Value}{xs:List aq}(h:Own w B 147 v xs)(hx:w.heap[Bx]?=YH (.cells #[v'] 29 (0,0))):v.ownBlock≠YH Bx:=by
 rcases h.2 with⟨hv,_⟩ |⟨g,cap,cur,hv,hB,hg,_⟩
 ·rw[hv];simp[Value.ownBlock]
 ·rw[hv]
  intro e;have:g=Bx:=by simpa[Value.ownBlock]using e
  subst this;rw[hg]at hx
  simp at hx
section
variable {n:aj} (hf:cO n) {w:World} {O:Nat->Prop} (ht:Dn w O) {v0 v1:Value} (h0:fg w (SW w) (.sl (n.aA.map bn)) v0) (h1:fg w (SW w) (.sl (n.off.map aE)) v1)
 {l:List aq} (hl:l.length<=1048000) {lv:Value} (hlr:fg w (SW w) (.sl (l.map aC)) lv) (bw ab:Int) {aG:List av} (TH:aG.length<=1048576) {A:Option Addr} {wn:Nat} (GR:Rd w w.heap.size A aG)
include hf ht h0 h1 hl hlr TH GR
theorem T7(wG:¬(cn n l=YJ/\aG.length<=20)):
 Calls prog 138 #[.agg #[v0,v1,I n.change],lv,I bw,I ab,.slice A aG.length wn] w λe w'=>∃v,e=.returned (.tuple #[v,.bool YK])/\Own w' w.heap.size 147 v l/\Up w w':=by
 have hA:=fun(W:World) (hu:Up w W)=>Qp hf ht h0 h1 hu (xs:=l) X9 (ux hlr hu)
 have hC:=fun(W:World) (hu:Up w W)=>Mj ht hu (xs:=l) X9 (ux hlr hu)
 have HA:Hid _:=hA;have HC:Hid _:=hC;clear hA hC hf ht h0 h1 hlr GR
 by_cases hb:cn n l=YJ
 ·have h20:(20:Int)<(aG.length:Int):=by
   rcases Nat.lt_or_ge 20 aG.length with h|h
   ·omega
   ·exact absurd ⟨hb,h⟩ wG
  have Hb:Hid (cn n l=YJ):=hb;clear wG hb
  go_enter func138,ntmps138
  go_wp2_with (first
   |(go_at_call 85;refine(HA.out _ Ya).mono ?_;rintro e w1 ⟨rfl,Ej⟩;rw[Hb.out])
   |(go_at_call 132;refine(HC.out _ Ya).mono ?_;rintro e w2 ⟨v2,rfl,zX,J0⟩))
  go_ret2
  exact⟨v2,rfl,zX.down Ya,by(repeat(first|exact Up.rfl' _|(refine Up.al _ ?_) |(refine Up.dr _ ?_) |(refine Up.uO ?_) |(refine Up.sc ?_ Yh _) |(refine Up.step Yp ?_)))⟩
 ·have FF:cn n l=false:=by simpa using hb
  have Hb:Hid (cn n l=YK):=FF;clear wG hb FF
  go_enter func138,ntmps138
  go_wp2_with (first
   |(go_at_call 85;refine(HA.out _ Ya).mono ?_;rintro e w1 ⟨rfl,Ej⟩;rw[Hb.out])
   |(go_at_call 132;refine(HC.out _ Ya).mono ?_;rintro e w2 ⟨v2,rfl,zX,J0⟩))
  go_ret2
  exact⟨v2,rfl,zX.down Ya,by(repeat(first|exact Up.rfl' _|(refine Up.al _ ?_) |(refine Up.dr _ ?_) |(refine Up.uO ?_) |(refine Up.sc ?_ Yh _) |(refine Up.step Yp ?_)))⟩
theorem Qu(hb:cn n l=YJ)(h20:aG.length<=20):
 Calls prog 138 #[.agg #[v0,v1,I n.change],lv,I bw,I ab,.slice A aG.length wn] w λe w'=>∃v ys ok,e=.returned (.tuple #[v,.bool ok])/\Own w' w.heap.size 147 v ys/\Up w w'/\ct n l bw ab aG=YH (ys,ok):=by
 have hlb:=(dH hb).2;have hA:=fun(W:World) (hu:Up w W) (xs:List aq) (hx:xs.length<=1048576) (lv:Value) (hl:fg W (SW W) (.sl (xs.map aC)) lv)=>Qp hf ht h0 h1 hu (xs:=xs) hx hl
 have hC:=fun(W:World) (hu:Up w W)=>Mj ht hu (xs:=l) X9 (ux hlr hu)
 have HA:Hid _:=hA;have HC:Hid _:=hC;have HL:Hid (∀W,Up w W->fg W (SW W) (.sl (l.map aC)) lv):=λW hu=>ux hlr hu
 have HW:Hid (Rd w w.heap.size A aG):=GR;have HF:Hid (cO n):=hf;have HT:Hid (Dn w O):=ht;have Hb:Hid (cn n l=YJ):=hb;have Zhe:¬(20:Int)<(aG.length:Int):=X9;clear hA hC hf ht h0 h1 hlr GR hb
 go_enter func138,ntmps138
 go_wp2_with (first
  |(go_at_call 85;refine(HA.out _ Ya l X9 lv (HL.out _ Ya)).mono ?_;rintro e w1 ⟨rfl,Ej⟩;rw[Hb.out])
  |(go_at_call 132;refine(HC.out _ Ya).mono ?_;rintro e w2 ⟨v2,rfl,zX,J0⟩;obtain⟨A2,c2,rfl,GN,_⟩:=zX.form))
 have GP:Up (w.alloc (.cells #[v0,v1,I n.change] 27)) w2:=by(repeat(first|exact Up.rfl' _|(refine Up.al _ ?_) |(refine Up.dr _ ?_) |(refine Up.uO ?_) |(refine Up.sc ?_ Yh _) |(refine Up.step Yp ?_)))
 have oM:Own w2 (w.heap.size+1) 147 (.slice A2 l.length c2) l:=by
  have:=zX.down (w0:=w.alloc (.cells #[v0,v1,I n.change] 27)) Ya
  simpa using this
 have HUB:=Lib.hid GP;have HO:=Lib.hid oM;clear zX GN oM
 go_loopw [30] (λvi wr=>∃(i:Nat) (v:Value),vi=YM YN i/\i<=aG.length/\Own wr (w.heap.size+1) 147 v (l++gD bw ab (aG.take i))/\wr.heap[w2.heap.size]?=YH (.cells #[v] 29 (0,0))/\Up (w.alloc (.cells #[v0,v1,I n.change] 27)) wr) (λvi _=>aG.length-(intOf vi).toNat)
 case atStart=>
  refine⟨0,_,by go_num,X9,?_,heap_alloc_new _ _,Up.al _ HUB.out⟩
  simp only[List.take_zero,gD,List.map_nil,List.append_nil];exact HO.out.up (Up.al _ (Up.rfl' _))
 case round=>
  obtain⟨i,v,rfl,hi,hv,hx,GR⟩:=hrel;obtain⟨A3,c3,rfl,hc3,hm3⟩:=hv.form;have AU:(l++gD bw ab (aG.take i)).length=l.length+i:=by simp[gD];omega
  rw[AU]at hv hx
  have hcx:wr.cell? ⟨w2.heap.size,0,YI⟩=YH (.slice A3 (l.length+i) c3):=by rw[cell_of_row wr _ 0 _ _ (0,0) hx];rfl
  have hz:w2.heap.size<wr.heap.size:=(Array.getElem?_eq_some_iff.1 hx).1;have J1:wr.heap.size≠w2.heap.size:=X9;have Oq:w2.heap.size≠wr.heap.size:=X9;have HV:=Lib.hid hv;have HX:=Lib.hid hx;have HWR:=Lib.hid GR;have HNL:=Lib.hid AU;clear hv hx GR;clear AU hc3 hm3
  by_cases bU:i<aG.length
  ·obtain⟨b,off,rfl,hbb,AS⟩:=(HW.out.up (Up.step (w.alloc (.cells #[v0,v1,I n.change] 27) |> λ_=>HWR.out) (Up.al _ (Up.rfl' w)))).aP (VU bU)
   have d0:wr.cell? ⟨b,off+i*2,YI⟩=YH (I aG[i].bD):=AS 0 _ rfl;have d1:wr.cell? ⟨b,off+i*2+1,YI⟩=YH (I aG[i].day):=AS 1 _ rfl;clear AS;have Zeh:Rd ((wr.alloc (.cells #[I aG[i].bD,I aG[i].day] 46)).alloc (.cells #[I bw,I aG[i].bD,I aG[i].day,I ab] 147)) (wr.heap.size+2) (YH ⟨wr.heap.size+1,0,YI⟩) [(⟨bw,aG[i],ab⟩:aq)]:=by
    have e:(wr.alloc (.cells #[I aG[i].bD,I aG[i].day] 46)).heap.size=wr.heap.size+1:=by simp
    have h:=Rd.one (wr.alloc (.cells #[I aG[i].bD,I aG[i].day] 46)) 147 (⟨bw,aG[i],ab⟩:aq) (wr.heap.size+2) (by rw[e];omega)
    rw[e]at h
    exact h
   have HR1:=Lib.hid Zeh;clear Zeh;have hlen:=HNL.out;have wu:w.heap.size+1<=wr.heap.size:=by have:=HWR.out.size;simpa using this
   go_wp2_with (at_builtin;refine iV ZdA rfl (.tmp 34) (.tmp 39) rfl (base:=w.heap.size+1) (ys:=l++gD bw ab (aG.take i)) (xs:=[(⟨bw,aG[i],ab⟩:aq)]) Yx (HV.out.up Ya) 1 Yx rfl HR1.out Ym (by unfold maxLen;simp only[VZ,VY];omega) Yi ?_;intro v' w3 GO hg3 _ hu3;refine Hid.out ?_)
   have hx3:w3.heap[w2.heap.size]?=YH (.cells #[.slice A3 (l.length+i) c3] 29 (0,0)):=by
    rw[hg3.block _ Yi (λe=>Sm HV.out HX.out e.symm)]
    exact((Up.al _ (Up.al _ (Up.rfl' wr))).block _ hz).trans HX.out
   obtain⟨A4,c4,rfl,Oc,hm4⟩:=GO.form;have hl4:(l++gD bw ab (aG.take i)++[(⟨bw,aG[i],ab⟩:aq)]).length=l.length+(i+1):=by simp[gD];omega
   rw[hl4]at GO⊢
   clear hl4;have MD:gD bw ab (aG.take (i+1))=gD bw ab (aG.take i)++[⟨bw,aG[i],ab⟩]:=by
    unfold gD;rw[XJ bU,List.map_append];rfl
   have ZfR:w3.cell? ⟨w2.heap.size,0,YI⟩=YH (.slice A3 (l.length+i) c3):=by rw[cell_of_row w3 _ 0 _ _ (0,0) hx3];rfl
   have Zho:w3.frozen? ⟨w2.heap.size,0,YI⟩=false:=by simp[World.frozen?,hx3]
   have Zem:Up (w.alloc (.cells #[v0,v1,I n.change] 27)) w3:=hu3 _ Ye (Up.al _ (Up.al _ HWR.out));have HX3:=Lib.hid hx3;have HO3:=Lib.hid GO;have HN:=Lib.hid MD;have HW3:=Lib.hid Zem;clear hx3 GO hg3 hu3 MD Zem Oc hm4 hlen;refine Lib.hid ?_
   go_wp2
   refine⟨⟨i+1,_,by go_num,X9,?_,heap_setCell_same w3 _ 0 _ _ _ HX3.out,Up.sc HW3.out (by have:=HUB.out.size;simp at this⊢;omega) _⟩,by simp[intOf];omega⟩
   rw[HN.out,<-List.append_assoc];exact HO3.out.grown (row:=YH w2.heap.size) ⟨rfl,rfl,rfl,by simp,λk hk iq=>heap_setCell_other _ _ _ _ (λe=>iq (by rw[e]))⟩ (.inr (Sm HO3.out HX3.out))
  ·have hie:i=aG.length:=X9
   subst hie;have uL:=Zaz HV.out HX.out (by rw[HNL.out];omega) (ZaF HT.out (Up.step HWR.out (Up.al _ (Up.rfl' w))) X9) (λb h=>h)
   have yM:¬(aG.length:Int)<(aG.length:Int):=X9
   go_wp2_with (go_at_call 200;refine uL.mono ?_;rintro e w4 ⟨rfl,ys,hp,hs,ho4,hu4⟩;refine Hid.out ?_)
   rw[List.take_length]at hp
   have hyl:ys.length=l.length+aG.length:=by rw[hp.length_eq];simp[gD]
   have zY:=tp HF.out hl bw ab hp hs;have Oo:Up (w.alloc (.cells #[v0,v1,I n.change] 27)) w4:=by
    have h:=HWR.out;exact⟨hu4.os.trans h.os,hu4.tape.trans h.tape,hu4.output.trans h.output,Wq h.size hu4.size,λb hb=>(hu4.block b (WT hb h.size) (λhh=>by simp at hb;omega)).trans (h.block b hb)⟩
   have e0:w4.cell? ⟨w.heap.size,0,YI⟩=YH v0:=AQ Ye Ye Oo;have e1:w4.cell? ⟨w.heap.size,1,YI⟩=YH v1:=AQ Ye Ye Oo;have e2:w4.cell? ⟨w.heap.size,2,YI⟩=YH (I n.change):=AQ Ye Ye Oo;have ex:w4.heap[w2.heap.size]?=YH (.cells #[.slice A3 (l.length+aG.length) c3] 29 (0,0)):=(hu4.block _ hz (λhh=>hh.2 rfl)).trans HX.out
   have exc:w4.cell? ⟨w2.heap.size,0,YI⟩=YH (.slice A3 (l.length+aG.length) c3):=by rw[cell_of_row w4 _ 0 _ _ (0,0) ex];rfl
   have hrp:fg w4 (SW w4) (.sl (ys.map aC)) (.slice A3 (l.length+aG.length) c3):=by
    rw[<-hyl]at ho4⊢
    obtain⟨A5,c5,e5,h5,h6⟩:=ho4.form;obtain⟨rfl,rfl⟩:A3=A5/\c3=c5:=by simpa using e5
    exact Gn (c:=aC) id (by rw[List.map_id];exact ho4.rd) h5 h6
   have Zb9:Up w w4:=Up.step Oo (Up.al _ (Up.rfl' w));have hA:=HA.out w4 Zb9 ys X9 _ hrp;have HSP:=Lib.hid zY;have HO4:=Lib.hid ho4;have HUP:=Lib.hid Oo;have Zbm:=Lib.hid Zb9;have HZ4:Hid (w2.heap.size<w4.heap.size):=WT hz hu4.size;clear uL hp hs ho4 hu4 hyl zY Oo ex hrp Zb9;refine Lib.hid ?_
   cases hby:cn n ys with
   |true=>
    rw[hby]at hA
    have HBY:=Lib.hid hby;clear hby
    go_wp2_with (first
     |(go_at_call 85;refine hA.mono ?_;rintro e w5 ⟨rfl,hu5⟩;have Zhd:=AQ exc HZ4.out hu5))
    go_ret2
    exact⟨_,ys,YJ,rfl,(HO4.out.more X9).up hu5,Up.step hu5 (Up.step HUP.out (Up.al _ (Up.rfl' w))),by rw[HSP.out,if_pos ⟨Hb.out,h20,HBY.out⟩]⟩
   |false=>
    rw[hby]at hA
    have HBY:=Lib.hid hby;clear hby
    go_wp2_with (first
     |(go_at_call 85;refine hA.mono ?_;rintro e w5 ⟨rfl,hu5⟩)
     |(go_at_call 132;refine(HC.out _ (Up.step hu5 Zbm.out)).mono ?_;rintro e w6 ⟨v6,rfl,ho6,hu6⟩))
    go_ret2
    exact⟨v6,l,YK,rfl,ho6.down (Up.step hu5 Zbm.out),Up.step hu6 (Up.step hu5 Zbm.out),by rw[HSP.out,if_neg (λh=>by rw[HBY.out]at h;cases h.2.2)]⟩
end
end Go.Proofs.YtdilaemengjipaaGreatDoor
namespace Go.Proofs.YtdilaemengjipaaGreatDoor
set_option maxRecDepth 10000
open Go.RowKit Go.Lib
def ZbL(n:aj):Bool:=YL (n.aA.length<=1048576)&&YL (n.off.length<=1048576)&&n.aA.all λl=>YL (l.au.size<=rq)&&YL (l.a8.size<=rq)
theorem BW{n:aj}:ZbL n=YJ↔cO n:=by
 unfold ZbL;simp only[V6,X7,List.all_eq_true];exact⟨λh=>⟨h.1.1,h.1.2,λl hl=>h.2 l hl⟩,λh=>⟨⟨h.aA,h.off⟩,λl hl=>h.bD l hl⟩⟩
def fu(n:aj)(l:List aq)(bw:Int)(ab:Int)(aG:List av):Option ((List aq)×Bool):=
 if ZbL n=YJ/\l.length<=1048000/\aG.length<=1048576 then ct n l bw ab aG else YI
theorem Zfn{vs:Array Value}{x0 x1 x2 x3 x4:Value}(h:vs.size=5)(h0:vs[0]?=YH x0)(h1:vs[1]?=YH x1)(h2:vs[2]?=YH x2)(h3:vs[3]?=YH x3)(h4:vs[4]?=YH x4):vs=#[x0,x1,x2,x3,x4]:=by
 grind
theorem AD(n:aj)(l:List aq)(bw:Int)(ab:Int)(aG:List av){r:(List aq)×Bool}(H:fu n l bw ab aG=YH r):fL prog 138 [.ag (bA n),.sl (l.map aC),vi bw,vi ab,.sl (aG.map aW)] [] (.tu [.ms 0,vb r.2]) [YH ⟨.of 147,4,r.1.map aC⟩]:=by
 unfold fu at H
 split at H
 case isFalse=>cases H
 rename_i hok;obtain⟨hf,hln,hwn⟩:=hok;have hf:=BW.1 hf;intro S β w vs ω hk hl ha;obtain⟨x0,q0,r0⟩:=ha 0 _ rfl;obtain⟨x1,q1,r1⟩:=ha 1 _ rfl;obtain⟨x2,q2,r2⟩:=ha 2 _ rfl;obtain⟨x3,q3,r3⟩:=ha 3 _ rfl;obtain⟨x4,q4,r4⟩:=ha 4 _ rfl;obtain rfl:=Zfn hl q0 q1 q2 q3 q4;obtain rfl:=LG r2;obtain rfl:=LG r3;obtain⟨us,rfl,hul,Ej,hur⟩:=r0.qq;have Zb8:us.size=3:=hul;have z0:us[0]?=YH us[0]:=V8 X9;have z1:us[1]?=YH us[1]:=V8 X9;have z2:us[2]?=YH us[2]:=V8 X9;have hus:us=#[us[0],us[1],us[2]]:=Zdh Zb8 z0 z1 z2;have w0:=(hur 0 (.sl (n.aA.map bn)) _ rfl z0).vB;have w1:=(hur 1 (.sl (n.off.map aE)) _ rfl z1).vB;have w2:=LG (hur 2 (vi n.change) _ rfl z2);have w3:=r1.vB;have w4:=r4.vB;have up:∀{p:PV} {x:Value},fg w S p x->fg w (SW w) p x:=λh=>h.ext (λb hb=>hk.sz b hb) λ_ _ _=>rfl
 obtain⟨A,wn,rfl,_,_,PW⟩:=M5 (id:av->av) (c:=aW) hk.sz w4;rw[List.map_id]at PW
 have Zd8:Calls prog 138 #[.agg #[us[0],us[1],I n.change],x1,I bw,I ab,.slice A aG.length wn] w λe w'=>∃v ys ok,e=.returned (.tuple #[v,.bool ok])/\Own w' w.heap.size 147 v ys/\Up w w'/\ct n l bw ab aG=YH (ys,ok):=by
  by_cases wG:cn n l=YJ/\aG.length<=20
  ·exact Qu hf hk.Nl (up w0) (up w1) hln (up w3) bw ab hwn PW wG.1 wG.2
  ·refine(T7 hf hk.Nl (up w0) (up w1) hln (up w3) bw ab hwn PW wG).mono ?_
   rintro e w' ⟨v,rfl,ho,hu⟩;refine⟨v,l,YK,rfl,ho,hu,?_⟩;unfold ct;rw[qR X9,VS,il hf X9,VS]
   by_cases hb:cn n l=YJ
   all_goals grind
 rw[hus,w2];refine Zd8.mono ?_;rintro e w' ⟨v,ys,ok,rfl,ho,hu,zY⟩;rw[zY]at H
 obtain rfl:=VW H;obtain⟨E',h1,h2,h3,h4,h5⟩:=vW (c:=aC) hk ho hu (λx=>⟨rfl,λj p hj=>by
  obtain⟨u,Ej,J0⟩:=uR.aP (c:=aC) (g:=(id:aq->aq)) x j p hj;exact⟨u,Ej,eQ.one _ u (VV Ej),λw E=>by rw[J0];exact CO _ (eQ.one _ u (VV Ej))⟩⟩)
 refine⟨_,E',rfl,h1,h2,h3,h4,.tu _ _ rfl λj p x hp hx=>?_⟩
 match j with
 |0=>grind
 |1=>obtain rfl:_=p:=VW hp
     obtain rfl:_=x:=VW hx;exact CO _ rfl
 |j+2=>grind
instance (n:aj)(l:List aq)(bw:Int)(ab:Int)(aG:List av):CT prog (fu n l bw ab aG):=⟨138,[.ag (bA n),.sl (l.map aC),vi bw,vi ab,.sl (aG.map aW)],[],λr=>.tu [.ms 0,vb r.2],λr=>[YH ⟨.of 147,4,r.1.map aC⟩],AD n l bw ab aG⟩
end Go.Proofs.YtdilaemengjipaaGreatDoor
namespace Go.Proofs.YtdilaemengjipaaGreatDoor
set_option maxRecDepth 10000
open Go.RowKit
variable {bs:List aq}
def fk(w:ax)(cC:ByteArray)(a8:ByteArray)(ay:Int)(ab:Int):Option (ax×Int×Bool):=
 (dA w).bind λy1=>
 (gK w).bind λy2=>
 cond (!y2)
 (YH (y1,0,YK))
 (cond (YL (30<=(w.ae.length:Int)))
 (YH (y1,0,YK))
 (cond (YL (cC=a8))
 (YH (y1,0,YK))
 ((aZ ay 1 3).bind λy3=>
 cond (!y3)
 (YH (y1,0,YK))
 ((aZ ab 1 30000).bind λy4=>
 cond (!y4)
 (YH (y1,0,YK))
 ((ie w.aa w.ar w.ah cC a8 (aI (w.now+1)) ab).bind λy5=>
 cond (!y5.2)
 (YH (y1,0,YK))
 ((fu w.aa w.ar (aI ((w.ae.length:Int)+1)) ab y5.1).bind λy6=>
 cond (!y6.2)
 (YH (y1,0,YK))
 ((fE w.aa ay cC a8 (aI (w.now+1))).bind λy7=>
 (eX y5.1).bind λy8=>
 (bW (bm ((y1.ae:List az).length+([(⟨cC,a8,ay,ab,w.now,y7,y8,0,1,cC,0⟩:az)]:List az).length) 128)).bind λ_=>
 (D9 (.un::vs cC::(U 3 (.be 0 0 0::(U 4 (.be 1 0 0::.un::.un::.be 2 0 0::vi (aI ((w.ae.length:Int)+1))::(U 102 [])))))) [YH ⟨.of 33,10,[[.sl (w.aa.aA.map bn),.sl (w.aa.off.map aE),vi w.aa.change,.sl (w.ae.map ba),.sl (w.ar.map aC),.sl (w.ah.map aW),vi w.now,.sl (w.aH.map bt),.sl (w.skip.map aE),vi w.bd]]⟩,YH ⟨.of 33,10,[[.v (.slice YI 0 0),.v (.slice YI 0 0),vi 0,.v (.slice YI 0 0),.v (.slice YI 0 0),.v (.slice YI 0 0),vi 0,.v (.slice YI 0 0),.v (.slice YI 0 0),vi 0]]⟩,YH ⟨.of 33,10,[[.ms 3,.ms 4,vi y1.aa.change,.ms 5,.ms 6,.ms 7,vi y1.now,.ms 8,.ms 9,vi y1.bd]]⟩,YH ⟨.of 144,6,y1.aa.aA.map bn⟩,YH ⟨.of 3,1,y1.aa.off.map aE⟩,YH ⟨⟨94,YH 46⟩,11,((y1.ae:List az)++[(⟨cC,a8,ay,ab,w.now,y7,y8,0,1,cC,0⟩:az)]).map ba⟩,YH ⟨.of 147,4,y6.1.map aC⟩,YH ⟨.of 46,2,y1.ah.map aW⟩,YH ⟨.of 151,6,y1.aH.map bt⟩,YH ⟨.of 3,1,y1.skip.map aE⟩]).bind λ_=>
 (bh [2,3,4,5,6,7,8,9]).bind λ_=>
 (fc (⟨y1.aa,((y1.ae:List az)++[(⟨cC,a8,ay,ab,w.now,y7,y8,0,1,cC,0⟩:az)]),y6.1,y1.ah,y1.now,y1.aH,y1.skip,y1.bd⟩:ax) (⟨(aI ((w.ae.length:Int)+1)),w.now,1,cC,(⟨0,0⟩:av)⟩:bq)).bind λy9=>
 YH (y9,(aI ((w.ae.length:Int)+1)),YJ))))))))
instance (w:ax)(cC:ByteArray)(a8:ByteArray)(ay:Int)(ab:Int):CT prog (fk w cC a8 ay ab):=⟨73,[.ag (fY w),vs cC,vs a8,vi ay,vi ab],[],λr=>.tu [.ag [.ms 0,.ms 1,vi r.1.aa.change,.ms 2,.ms 3,.ms 4,vi r.1.now,.ms 5,.ms 6,vi r.1.bd],vi r.2.1,vb r.2.2],λr=>[YH ⟨.of 144,6,r.1.aa.aA.map bn⟩,YH ⟨.of 3,1,r.1.aa.off.map aE⟩,YH ⟨⟨94,YH 46⟩,11,r.1.ae.map ba⟩,YH ⟨.of 147,4,r.1.ar.map aC⟩,YH ⟨.of 46,2,r.1.ah.map aW⟩,YH ⟨.of 151,6,r.1.aH.map bt⟩,YH ⟨.of 3,1,r.1.skip.map aE⟩],ck (fk.eq_1 ..) func73 ntmps73 results73⟩
def L6(w:ax)(au a8:ByteArray)(ay ab:Int):Prop:=
 30<=w.ae.length\/au=a8\/¬(1<=ay/\ay<=3)\/¬(1<=ab/\ab<=30000)\/(∃x,bN w.aa w.ar w.ah au a8 (w.now+1) ab=YH (x,YK))\/
  ∃aG l,bN w.aa w.ar w.ah au a8 (w.now+1) ab=YH (aG,YJ)/\ct w.aa w.ar ((w.ae.length:Int)+1) ab aG=YH (l,YK)
structure Qe(w:ax)(au a8:ByteArray)(ay ab:Int)(r:ax×Int×Bool)(aG:List av)(ys:List aq)(dW:Int):Prop where
 iU:bN w.aa w.ar w.ah au a8 (w.now+1) ab=YH (aG,YJ)
 book:ct w.aa w.ar ((w.ae.length:Int)+1) ab aG=YH (ys,YJ)
 prom:fE w.aa ay au a8 (w.now+1)=YH dW
 res:r=(xw w (nL w au a8 ay ab dW aG) ys,(w.ae.length:Int)+1,YJ)
 ne:¬au=a8
 ok:ql (xw w (nL w au a8 ay ab dW aG) ys)
theorem Qg{w:ax}(h:ql w)(au a8:ByteArray)(ay ab:Int)(hpr:∀aG,bN w.aa w.ar w.ah au a8 (w.now+1) ab=YH (aG,YJ)->1<=ay/\ay<=3->∃d,fE w.aa ay au a8 (w.now+1)=YH d/\0<=d/\d<=200000):
 ∃r,fk w au a8 ay ab=YH r/\(r=(w,0,YK)/\L6 w au a8 ay ab\/∃aG ys dW,Qe w au a8 ay ab r aG ys dW):=by
 have hf:=h.fit;obtain⟨p1,p2,p3,p4,p5,p6,p7⟩:=h.parts;have wY:aI (w.now+1)=w.now+1:=aR X9;have Az:aI ((w.ae.length:Int)+1)=(w.ae.length:Int)+1:=aR X9;unfold fk;rw[xL hf,VS,sx hf,h.ok,VS,gE,wY,Az];simp only[V5,X6,cE,VS]
 by_cases c1:30<=w.ae.length
 ·exact⟨_,by grind,.inl ⟨rfl,.inl c1⟩⟩
 rw[X2 (show ¬(30:Int)<=(w.ae.length:Int)by omega),X6]
 by_cases c2:au=a8
 ·exact⟨_,by simp_all,.inl ⟨rfl,.inr (.inl c2)⟩⟩
 rw[X2 c2,X6]
 by_cases c3:1<=ay/\ay<=3
 case neg=>
  refine⟨(w,0,YK),?_,.inl ⟨rfl,.inr (.inr (.inl c3))⟩⟩
  grind
 rw[X1 c3.1,X1 c3.2]
 by_cases c4:1<=ab/\ab<=30000
 case neg=>
  refine⟨(w,0,YK),?_,.inl ⟨rfl,.inr (.inr (.inr (.inl c4)))⟩⟩
  grind
 rw[X1 c4.1,X1 c4.2];simp only[Bool.and_self,V5,X6];obtain⟨⟨aG,b⟩,e1,e2⟩:=qZ hf.eO hf.ar hf.ah au a8 (w.now+1) ab;rw[e1,VS]
 cases b with
 |false=>exact⟨(w,0,YK),rfl,.inl ⟨rfl,.inr (.inr (.inr (.inr (.inl ⟨aG,e2⟩))))⟩⟩
 |true=>
 have hR:=qe hf.eO hf.ar hf.ah e2;have hlen:=hR.len;simp only[V5,X6];have AU:(gD ((w.ae.length:Int)+1) ab aG).length=aG.length:=by unfold gD;simp
 obtain⟨d,d1,d2⟩:=Gx (w.ar++gD ((w.ae.length:Int)+1) ab aG) Yd;have xq:fu w.aa w.ar ((w.ae.length:Int)+1) ab aG=ct w.aa w.ar ((w.ae.length:Int)+1) ab aG:=by
  unfold fu;rw[if_pos ⟨BW.2 hf.eO,X9,X9⟩]
 have zY:=tp hf.eO (show w.ar.length<=1048000 by omega) ((w.ae.length:Int)+1) ab d1 d2
 rw[xq]
 by_cases Re:cn w.aa d=YJ
 case neg=>
  rw[if_neg (λhx=>Re hx.2.2)]at zY
  refine⟨(w,0,YK),?_,.inl ⟨rfl,.inr (.inr (.inr (.inr (.inr ⟨aG,w.ar,e2,zY⟩))))⟩⟩
  simp_all
 rw[if_pos ⟨hR.hC.1,hlen,Re⟩]at zY
 obtain⟨dW,q1,q2,q3⟩:=hpr aG e2 c3;have zh:=Zbo h X9 c2 c3 c4 ⟨q2,q3⟩ hR d1 Re;have ha:bW (bm (w.ae.length+([nL w au a8 ay ab dW aG]:List az).length) 128)=YH ():=eV Yd X9;have hct:eX aG=YH aG:=sS X9;have hsi:=Gt (w:=⟨w.aa,w.ae++[nL w au a8 ay ab dW aG],d,w.ah,w.now,w.aH,w.skip,w.bd⟩) ⟨by grind,p4,by grind⟩ ⟨(w.ae.length:Int)+1,w.now,1,au,⟨0,0⟩⟩
 refine⟨(xw w (nL w au a8 ay ab dW aG) d,(w.ae.length:Int)+1,YJ),?_,.inr ⟨aG,d,dW,e2,zY,q1,rfl,c2,zh⟩⟩;rw[zY];simp only[VS,V5,X6,D9,q1,hct,bh];unfold nL at ha hsi⊢
 rw[ha];simp only[VS];rw[hsi];rfl
def jg(w:aj)(o:az):Option ByteArray:=
 cond (YL (o.state=2))
 ((aB o.aG o.aN).bind λy1=>
 (aB w.aA y1.bD).bind λy2=>
 YH y2.a8)
 (YH o.place)
instance (w:aj)(o:az):CT prog (jg w o):=⟨203,[.ag [.sl (w.aA.map bn),.sl (w.off.map aE),vi w.change,.un,.un,.un,.un,.un,.un,.un],.ag (ba o)],[],λr=>vs r,λr=>[],cw (jg.eq_1 ..) func203 ntmps203 results203⟩
def hZ(w:ax)(id:Int)(y2:Int)(s0:Int×(List aq)):Option ((Int×(List aq))⊕(List aq)):=
 cond (YL (s0.1<(w.ar.length:Int)))
 ((aB w.ar s0.1).bind λy3=>
 cond (!decide (y3.bw=id))
 ((bW (bm ((s0.2:List aq).length+([y3]:List aq).length) 32)).bind λ_=>
 YH (.inl ((aI (s0.1+1)),((s0.2:List aq)++[y3]))))
 ((wC w.ae (aI (id-1))).bind λy4=>
 (bW (gg y2 (y4.aG.length:Int) y4.aG.length)).bind λ_=>
 (eR (cH y4.aG y2 (y4.aG.length:Int)) y3.bj).bind λy5=>
 cond (!y5)
 ((bW (bm ((s0.2:List aq).length+([y3]:List aq).length) 32)).bind λ_=>
 YH (.inl ((aI (s0.1+1)),((s0.2:List aq)++[y3]))))
 (YH (.inl ((aI (s0.1+1)),s0.2)))))
 (YH (.inr s0.2))
instance (w:ax)(id:Int)(y2:Int):bo (hZ w id y2):=⟨λs0=>(.be 0 0 0::vi id::.un::.un::.be 3 (Wd (aI (id-1))) 0::vi y2::.ms 8::(U 22 (.ms 4::vi (w.ar.length:Int)::vi s0.1::(U 132 [])))),λs0=>[YH ⟨.of 33,10,[[.ms 1,.ms 2,vi w.aa.change,.ms 3,.ms 4,.ms 5,vi w.now,.ms 6,.ms 7,vi w.bd]]⟩,YH ⟨.of 144,6,w.aa.aA.map bn⟩,YH ⟨.of 3,1,w.aa.off.map aE⟩,YH ⟨⟨94,YH 46⟩,11,w.ae.map ba⟩,YH ⟨.of 147,4,w.ar.map aC⟩,YH ⟨.of 46,2,w.ah.map aW⟩,YH ⟨.of 151,6,w.aH.map bt⟩,YH ⟨.of 3,1,w.skip.map aE⟩,YH ⟨.of 147,4,s0.2.map aC⟩]⟩
def eZ(w:ax)(id:Int):Option ax:=
 (aB w.ae (aI (id-1))).bind λy1=>
 (gI y1).bind λy2=>
 (aD (hZ w id y2) NN (0,([]:List aq))).bind (λo0=>
 (wC w.ae (aI (id-1))).bind λy6=>
 (bW (gg 0 y2 y6.aG.length)).bind λ_=>
 (eX (cH y6.aG 0 y2)).bind λy7=>
 (wC w.ae (aI (id-1))).bind λy8=>
 cond (YL (0<y2))
 ((aB y7 (aI (y2-1))).bind λy9=>
 (cX w.aa y9).bind λdL=>
 (wC w.ae (aI (id-1))).bind λji=>
 (jg w.aa (⟨y8.au,y8.a8,y8.ay,y8.ab,y8.aP,y8.dW,y7,y8.aN,y8.state,y8.place,y8.bB⟩:az)).bind λoX=>
 (wC w.ae (aI (id-1))).bind λmf=>
 (ie w.aa o0 w.ah oX y8.a8 (if(aI (dL+w.aa.change)) > (aI (w.now+1))then(aI (dL+w.aa.change))else(aI (w.now+1))) y8.ab).bind λkX=>
 cond (!kX.2)
 (YH (⟨w.aa,(w.ae.set (Wd (aI (id-1))) (⟨y8.au,y8.a8,y8.ay,y8.ab,y8.aP,y8.dW,y7,y8.aN,y8.state,y8.place,y8.bB⟩:az)),o0,w.ah,w.now,w.aH,w.skip,w.bd⟩:ax))
 ((wC w.ae (aI (id-1))).bind λpg=>
 (fu w.aa o0 id y8.ab kX.1).bind λmu=>
 cond mu.2
 ((wC w.ae (aI (id-1))).bind λrn=>
 (bW (bm ((y7:List av).length+(kX.1:List av).length) 16)).bind λ_=>
 YH (⟨w.aa,(w.ae.set (Wd (aI (id-1))) (⟨y8.au,y8.a8,y8.ay,y8.ab,y8.aP,y8.dW,((y7:List av)++kX.1),y8.aN,y8.state,y8.place,y8.bB⟩:az)),mu.1,w.ah,w.now,w.aH,w.skip,w.bd⟩:ax))
 (YH (⟨w.aa,(w.ae.set (Wd (aI (id-1))) (⟨y8.au,y8.a8,y8.ay,y8.ab,y8.aP,y8.dW,y7,y8.aN,y8.state,y8.place,y8.bB⟩:az)),o0,w.ah,w.now,w.aH,w.skip,w.bd⟩:ax))))
 ((jg w.aa (⟨y8.au,y8.a8,y8.ay,y8.ab,y8.aP,y8.dW,y7,y8.aN,y8.state,y8.place,y8.bB⟩:az)).bind λsi=>
 (wC w.ae (aI (id-1))).bind λvH=>
 (ie w.aa o0 w.ah si y8.a8 (aI (w.now+1)) y8.ab).bind λAJ=>
 cond (!AJ.2)
 (YH (⟨w.aa,(w.ae.set (Wd (aI (id-1))) (⟨y8.au,y8.a8,y8.ay,y8.ab,y8.aP,y8.dW,y7,y8.aN,y8.state,y8.place,y8.bB⟩:az)),o0,w.ah,w.now,w.aH,w.skip,w.bd⟩:ax))
 ((wC w.ae (aI (id-1))).bind λxp=>
 (fu w.aa o0 id y8.ab AJ.1).bind λAq=>
 cond Aq.2
 ((wC w.ae (aI (id-1))).bind λFa=>
 (bW (bm ((y7:List av).length+(AJ.1:List av).length) 16)).bind λ_=>
 YH (⟨w.aa,(w.ae.set (Wd (aI (id-1))) (⟨y8.au,y8.a8,y8.ay,y8.ab,y8.aP,y8.dW,((y7:List av)++AJ.1),y8.aN,y8.state,y8.place,y8.bB⟩:az)),Aq.1,w.ah,w.now,w.aH,w.skip,w.bd⟩:ax))
 (YH (⟨w.aa,(w.ae.set (Wd (aI (id-1))) (⟨y8.au,y8.a8,y8.ay,y8.ab,y8.aP,y8.dW,y7,y8.aN,y8.state,y8.place,y8.bB⟩:az)),o0,w.ah,w.now,w.aH,w.skip,w.bd⟩:ax)))))
instance (w:ax)(id:Int):CT prog (eZ w id):=⟨147,[.be 0 0 0,vi id],[YH ⟨.of 33,10,[[.ms 1,.ms 2,vi w.aa.change,.ms 3,.ms 4,.ms 5,vi w.now,.ms 6,.ms 7,vi w.bd]]⟩,YH ⟨.of 144,6,w.aa.aA.map bn⟩,YH ⟨.of 3,1,w.aa.off.map aE⟩,YH ⟨⟨94,YH 46⟩,11,w.ae.map ba⟩,YH ⟨.of 147,4,w.ar.map aC⟩,YH ⟨.of 46,2,w.ah.map aW⟩,YH ⟨.of 151,6,w.aH.map bt⟩,YH ⟨.of 3,1,w.skip.map aE⟩],λr=>.tu [],λr=>[YH ⟨.of 33,10,[[.ms 1,.ms 2,vi r.aa.change,.ms 3,.ms 8,.ms 5,vi r.now,.ms 6,.ms 7,vi r.bd]]⟩,YH ⟨.of 144,6,r.aa.aA.map bn⟩,YH ⟨.of 3,1,r.aa.off.map aE⟩,YH ⟨⟨94,YH 46⟩,11,r.ae.map ba⟩,YI,YH ⟨.of 46,2,r.ah.map aW⟩,YH ⟨.of 151,6,r.aH.map bt⟩,YH ⟨.of 3,1,r.skip.map aE⟩,YH ⟨.of 147,4,r.ar.map aC⟩],ck (eZ.eq_1 ..) func147 ntmps147 results147⟩
def fZ(n:aj)(o:az):ByteArray:=if o.state=2 then((o.aG[o.aN.toNat]?).map (cg n)).getD ⟨#[]⟩else o.place
def cf(o:az):List av:=o.aG.take (bb o).toNat
def lZ(o:az):List av:=o.aG.drop (bb o).toNat
def atR(n:aj)(now:Int)(o:az):Int:=match(cf o).getLast? with
 |some t=>if dF n t+n.change > now+1 then dF n t+n.change else now+1
 |none=>now+1
def gl(w:ax)(i:Nat)(o:az):List aq:=oY ((i+1:Nat):Int) (lZ o) w.ar
def fK(o:az)(ts:List av):az:=⟨o.au,o.a8,o.ay,o.ab,o.aP,o.dW,ts,o.aN,o.state,o.place,o.bB⟩
def xa(w:ax)(i:Nat)(o:az)(ts:List av)(bs:List aq):ax:=⟨w.aa,w.ae.set i (fK o ts),bs,w.ah,w.now,w.aH,w.skip,w.bd⟩
def P8(w:ax)(i:Nat)(o:az):Prop:=(∃x,bN w.aa (gl w i o) w.ah (fZ w.aa o) o.a8 (atR w.aa w.now o) o.ab=YH (x,YK))\/
 ∃aG,bN w.aa (gl w i o) w.ah (fZ w.aa o) o.a8 (atR w.aa w.now o) o.ab=YH (aG,YJ)/\ct w.aa (gl w i o) ((i+1:Nat):Int) o.ab aG=YH (gl w i o,YK)
structure P7(w:ax)(i:Nat)(o:az)(aG:List av)(bs:List aq):Prop where
 iU:bN w.aa (gl w i o) w.ah (fZ w.aa o) o.a8 (atR w.aa w.now o) o.ab=YH (aG,YJ)
 book:ct w.aa (gl w i o) ((i+1:Nat):Int) o.ab aG=YH (bs,YJ)
 JS:TN w.aa (gl w i o) w.ah o.ab (fZ w.aa o) o.a8 (atR w.aa w.now o) aG
 perm:bs.Perm (gl w i o++gD ((i+1:Nat):Int) o.ab aG)
 mg:cn w.aa bs=YJ
def ua(w:ax)(i:Nat)(o:az)(w':ax):Prop:=(P8 w i o/\w'=xa w i o (cf o) (gl w i o))\/∃aG bs,P7 w i o aG bs/\w'=xa w i o (cf o++aG) bs
section
variable {w:ax} {i:Nat} {o:az}
theorem OE(hb:w.ar.length<=1000)(ho:aB w.ae (i:Int)=YH o)(hl:o.aG.length<=1048576)(hi:i<=1000){k:Int}(hk:0<=k/\k<=o.aG.length):
 aD (hZ w ((i+1:Nat):Int) k) NN (0,[])=YH (oY ((i+1:Nat):Int) (o.aG.drop k.toNat) w.ar):=by
 have hid:aI (((i+1:Nat):Int)-1)=(i:Int):=by rw[aR X9];omega
 have uq:cH o.aG k (o.aG.length:Int)=o.aG.drop k.toNat:=by
  unfold cH;rw[List.take_of_length_le Ye]
 have zl:bW (gg k (o.aG.length:Int) o.aG.length)=YH ():=od Yy;refine my (body:=hZ w ((i+1:Nat):Int) k) (λj:Nat=>((j:Int),oY ((i+1:Nat):Int) (o.aG.drop k.toNat) (w.ar.take j))) (n:=w.ar.length) (λj hj=>?_) ?_ NN Yc
 ·have hg:aB w.ar (j:Int)=YH w.ar[j]:=by rw[aS];simp
  have hw:aI ((j:Int)+1)=((j+1:Nat):Int):=bE hj X9;have Og:(oY ((i+1:Nat):Int) (o.aG.drop k.toNat) (w.ar.take j)).length<=1000:=Wq (List.length_filter_le _ _) Yd;have ha:bW (bm ((oY ((i+1:Nat):Int) (o.aG.drop k.toNat) (w.ar.take j)).length+([w.ar[j]]:List aq).length) 32)=YH ():=eV Yd X9;have hs:oY ((i+1:Nat):Int) (o.aG.drop k.toNat) (w.ar.take (j+1))=oY ((i+1:Nat):Int) (o.aG.drop k.toNat) (w.ar.take j)++(if(YL (w.ar[j].bw=((i+1:Nat):Int))&&dx (o.aG.drop k.toNat) w.ar[j].bj)=YJ then []else [w.ar[j]]):=by
   unfold oY;rw[XJ hj]
   grind
  unfold hZ;rw[hs]
  by_cases h:w.ar[j].bw=((i+1:Nat):Int)
  ·simp only[wC,hid,ho,VS,uq,jk (show(o.aG.drop k.toNat).length<=1048576 by grind)]
   have e:((o.aG.drop k.toNat).any λy=>YL (y=w.ar[j].bj))=dx (o.aG.drop k.toNat) w.ar[j].bj:=rfl
   grind
  grind
 ·unfold hZ
  simp
variable (hf:qp w) (hn:aV w.aa=YH YJ) (hb:cn w.aa w.ar=YJ) (Cg:0<=w.now/\w.now<=100000) (hi:i<=1000)
 (ho:w.ae[i]?=YH o) (hg:0<=o.aN/\o.aN<=o.aG.length) (h2:o.state=2->o.aN<o.aG.length) (ht:∀t∈o.aG,fV w.aa t=YJ) (TH:o.aG.length<=1000)
include hf hn hb Cg hi ho hg h2 ht TH
theorem Zac:∃w',eZ w ((i+1:Nat):Int)=YH w'/\ua w i o w':=by
 have hl:=hf.aG o (VV ho);obtain⟨_,zi⟩:=dH hb;obtain⟨c0,c1⟩:=kI hn;have Rz:aB w.ae (i:Int)=YH o:=by rw[aS];omega
 have hid:aI (((i+1:Nat):Int)-1)=(i:Int):=by rw[aR X9];omega
 have hk:0<=bb o/\bb o<=o.aG.length:=by
  unfold bb;omega
 have Eg:gI o=YH (bb o):=by
  rw[(sR hg hl).2.2,if_neg X9]
 have hkl:(cf o).length=(bb o).toNat:=by unfold cf;grind
 have uq:cH o.aG 0 (bb o)=cf o:=by rfl
 have zl:bW (gg 0 (bb o) o.aG.length)=YH ():=od Yy;have hct:eX (cf o)=YH (cf o):=sS X9;have wY:aI (w.now+1)=w.now+1:=aR X9;have Il:(gl w i o).length<=120:=Wq (tw _ _ _).length_le zi;have sM:=yW hf.eO hb (tw ((i+1:Nat):Int) (lZ o) w.ar);have Dt:jg w.aa (fK o (cf o))=YH (fZ w.aa o):=by
  have e0:jg w.aa (fK o (cf o))=cond (YL (o.state=2)) ((aB (cf o) o.aN).bind λy1=>(aB w.aa.aA y1.bD).bind λy2=>YH y2.a8) (YH o.place):=rfl
  rw[e0];unfold fZ
  by_cases h:o.state=2
  ·have Cc:o.aN.toNat<o.aG.length:=X9
   have e1:aB (cf o) o.aN=YH o.aG[o.aN.toNat]:=by
    unfold aB cf bb
    grind
   obtain⟨y,hy,_⟩:=fa hf.eO (ht _ (Wm Cc));unfold cg
   grind
  grind
 obtain⟨⟨aG,b⟩,e1,e2⟩:=qZ hf.eO (l:=gl w i o) X9 hf.ah (fZ w.aa o) o.a8 (atR w.aa w.now o) o.ab
 -- L3 follows when the aG was looked for
 have tail:∀a,a=atR w.aa w.now o->∃w',((ie w.aa (gl w i o) w.ah (fZ w.aa o) o.a8 a o.ab).bind λkX=>
  cond (!kX.2) (YH (xa w i o (cf o) (gl w i o)))
  ((wC w.ae (aI (((i+1:Nat):Int)-1))).bind λpg=>
  (fu w.aa (gl w i o) ((i+1:Nat):Int) o.ab kX.1).bind λmu=>
  cond mu.2
  ((wC w.ae (aI (((i+1:Nat):Int)-1))).bind λrn=>
  (bW (bm (((cf o):List av).length+(kX.1:List av).length) 16)).bind λ_=>
  YH (xa w i o (cf o++kX.1) mu.1))
  (YH (xa w i o (cf o) (gl w i o)))))=YH w'/\ua w i o w':=by
  rintro a rfl;rw[e1]
  cases b with
  |false=>exact⟨_,rfl,.inl ⟨.inl ⟨aG,e2⟩,rfl⟩⟩
  |true=>
  have hR:=qe hf.eO (show(gl w i o).length<=1048576 by omega) hf.ah e2
  have hlen:=hR.len;have AU:(gD ((i+1:Nat):Int) o.ab aG).length=aG.length:=by unfold gD;simp
  obtain⟨d,d1,d2⟩:=Gx (gl w i o++gD ((i+1:Nat):Int) o.ab aG) Yd;have xq:fu w.aa (gl w i o) ((i+1:Nat):Int) o.ab aG=ct w.aa (gl w i o) ((i+1:Nat):Int) o.ab aG:=by
   unfold fu;rw[if_pos ⟨BW.2 hf.eO,X9,X9⟩]
  have zY:=tp hf.eO (show(gl w i o).length<=1048000 by omega) ((i+1:Nat):Int) o.ab d1 d2
  simp only[wC]
  by_cases Re:cn w.aa d=YJ
  ·rw[if_pos ⟨sM,hlen,Re⟩]at zY
   have ha:bW (bm ((cf o).length+aG.length) 16)=YH ():=eV X9 X9;exact⟨_,by grind,.inr ⟨aG,d,⟨e2,zY,hR,d1,Re⟩,rfl⟩⟩
  ·rw[if_neg (λhx=>Re hx.2.2)]at zY
   exact⟨_,by grind,.inl ⟨.inr ⟨aG,e2,zY⟩,rfl⟩⟩
 unfold eZ;simp only[wC,hid,Rz,VS,Eg,OE (show w.ar.length<=1000 by omega) Rz hl hi hk,zl,uq,hct]
 have hdl:oY ((i+1:Nat):Int) (List.drop (bb o).toNat o.aG) w.ar=gl w i o:=rfl;rw[hdl]
 by_cases h0:0<bb o
 ·have hkt:(bb o).toNat-1<o.aG.length:=X9
  have wF:(cf o).getLast?=YH o.aG[(bb o).toNat-1]:=by
   unfold cf
   grind
  have hgk:aB (cf o) (aI (bb o-1))=YH o.aG[(bb o).toNat-1]:=by
   rw[aR X9];unfold aB cf;rw[if_pos X9,List.getElem?_take,if_pos X9];simp
  obtain⟨t1,t2,t3,t4,t5⟩:=cR hf.eO hn (ht _ (Wm hkt));have he:cX w.aa o.aG[(bb o).toNat-1]=YH (dF w.aa o.aG[(bb o).toNat-1]):=by rw[rU];omega
  have hwe:aI (dF w.aa o.aG[(bb o).toNat-1]+w.aa.change)=dF w.aa o.aG[(bb o).toNat-1]+w.aa.change:=aR X9;have Rc:(if dF w.aa o.aG[(bb o).toNat-1]+w.aa.change > w.now+1 then dF w.aa o.aG[(bb o).toNat-1]+w.aa.change else w.now+1)=atR w.aa w.now o:=by
   unfold atR;grind
  rw[X1 h0,X5,hgk];simp only[VS,he,wY,hwe];have ZbX:jg w.aa ⟨o.au,o.a8,o.ay,o.ab,o.aP,o.dW,cf o,o.aN,o.state,o.place,o.bB⟩=YH (fZ w.aa o):=Dt;rw[ZbX];obtain⟨w',q1,q2⟩:=tail _ Rc;refine⟨w',?_,q2⟩;rw[<-q1];simp only[wC,hid,Rz,VS,xa,fK,WQ]
 ·have Rc:w.now+1=atR w.aa w.now o:=by unfold atR;grind
  rw[X2 h0,X6];have ZbX:jg w.aa ⟨o.au,o.a8,o.ay,o.ab,o.aP,o.dW,cf o,o.aN,o.state,o.place,o.bB⟩=YH (fZ w.aa o):=Dt;rw[ZbX,wY];obtain⟨w',q1,q2⟩:=tail _ Rc;refine⟨w',?_,q2⟩;rw[<-q1];simp only[wC,hid,Rz,VS,xa,fK,WQ]
end
def xd(n:aj)(bs:List aq)(cl:List av)(now:Int)(i:Nat)(o:az):Bool:=jR ⟨n,[],bs,cl,now,[],[],0⟩ i o
structure uU(w:ax)(c:Nat->List av):Prop where
 fit:qp w
 mg:cn w.aa w.ar=YJ
 now:0<=w.now/\w.now<=100000
 IU:w.ae.length<=30
 ord:∀(i:Nat) (o:az),w.ae[i]?=YH o->xd w.aa w.ar (c i) w.now i o=YJ
 sum:(w.ae.map λo=>o.aG.length).sum=w.ar.length
 cl:∀i,(c i).length<=1048576
theorem RZ{α:Type}(f:α->Nat):∀{l:List α} {x:α},x∈l->f x<=(l.map f).sum
 |a::l,x,h=>by
  simp
  rcases List.mem_cons.1 h with rfl|h
  ·omega
  ·have:=RZ f h;omega
theorem Ns{w:ax}(hf:qp w)(ho:w.ae.length<=1000):uC w=((w.ae.map λo=>o.aG.length).sum:Nat):=by
 have:=E4 w.ae 0 hf.aG X9;rw[We]at this
 exact this
structure Bf(w:ax):Prop where
 ah:w.ah.length<=20
 aH:w.aH.length<=200
 skip:w.skip.length<=50
 bd:w.aH.length<=w.bd/\w.bd<=1000000000
 cl:allI (rS w) 0 w.ah=YJ
 sc:allI (wL w) 0 w.aH=YJ
theorem s7{w:ax}(h:ql w):uU w (λ_=>w.ah)/\Bf w:=by
 obtain⟨p1,p2,p3,p4,p5,p6,p7⟩:=h.parts;have hv:=h.ok;unfold ew at hv
 simp at hv
 obtain⟨⟨⟨⟨⟨⟨⟨⟨⟨⟨h1,h2⟩,h3⟩,h4⟩,h5⟩,h6⟩,h7⟩,h8⟩,h9⟩,wm⟩,Eb⟩:=hv;refine⟨⟨h.fit,h1,p1,p2,λi o ho=>?_,?_,λ_=>h.fit.ah⟩,⟨p3,p4,p5,p6,h8,h9⟩⟩
 ·exact qh h.ok ho
 ·have:=Ns h.fit X9
  omega
theorem JV{w:ax}(h:uU w (λ_=>w.ah))(k:Bf w):ql w:=by
 refine⟨h.fit,?_⟩;have:=h.IU;have:=k.ah;have:=k.aH;have:=k.skip;unfold ew;simp;refine⟨⟨⟨⟨⟨⟨⟨⟨⟨⟨h.mg,h.now⟩,X9⟩,X9⟩,X9⟩,X9⟩,k.bd⟩,k.cl⟩,k.sc⟩,?_⟩,?_⟩
 ·refine cB.2 λi o ho=>?_
  rw[We];exact h.ord i o ho
 ·rw[Ns h.fit X9,h.sum]
structure Zfl(n:aj)(bs:List aq)(cl:List av)(now:Int)(i:Nat)(o:az):Prop where
 ok:Fc ⟨n,[],bs,cl,now,[],[],0⟩ i o
 chain:iE n o.au (o.aP+1) o.aG
 st:mX n o now
section
variable {w:ax} {c:Nat->List av} (h:uU w c) {i:Nat} {o:az} (ho:w.ae[i]?=YH o)
include h ho
theorem tS:o.aG.length<=120:=by
 have:=RZ (λo:az=>o.aG.length) (VV ho)
 have:=(dH h.mg).2;have:=h.sum;omega
theorem kL:Zfl w.aa w.ar (c i) w.now i o:=by
 have hn:=(dH h.mg).1;have hl:=tS h ho;have hO:=IW (w:=⟨w.aa,[],w.ar,c i,w.now,[],[],0⟩) ⟨h.fit.eO,by simp,h.fit.ar,h.cl i,by simp,by simp,by simp⟩ (i:=i) (o:=o) X9 (h.ord i o ho)
 have hw:aI (o.aP+1)=o.aP+1:=by
  have h1:0<=o.aP:=hO.aP.1;have h2:o.aP<=w.now:=hO.aP.2;have:=h.now;rw[aR X9]
 have hc:=Ad h.fit.eO hn X9 hO.Za8;rw[hw]at hc
 exact⟨hO,hc,(tW h.fit.eO hn hO.aN X9 hO.bj w.now).1 hO.st⟩
theorem nr:0<=bb o/\bb o<=o.aG.length/\(cf o).length=(bb o).toNat/\o.aN<=bb o:=by
 have hO:=(kL h ho).ok;obtain⟨g0,g1⟩:=hO.aN;have hk:0<=bb o/\bb o<=o.aG.length/\o.aN<=bb o:=by
  unfold bb
  by_cases hs:o.state=2
  ·rcases hO.cases with c1|c1|c1
   all_goals omega
  omega
 unfold cf
 grind
theorem sG:o.aG=cf o++lZ o:=(List.take_append_drop _ _).symm
theorem ID{j:Nat}(hj:j<(cf o).length):(cf o)[j]?=o.aG[j]?:=by
 have:=(nr h ho).2.2.1;unfold cf
 grind
theorem D5(hs:¬o.state=3):Kx w.aa o.au (cf o)=fZ w.aa o:=by
 have hP:=kL h ho;obtain⟨g0,g1⟩:=hP.ok.aN;unfold fZ
 rcases hP.st.cases with⟨s1,s2,s3,s4,s5⟩ |⟨s1,s2,s3,t,t1,t2,t3⟩ |s
 ·rw[if_neg X9,s2]
  unfold pn;have zj:bb o=o.aN:=by unfold bb;omega
  by_cases hg:0<o.aN
  ·have bU:(o.aN-1).toNat<o.aG.length:=X9
   rw[if_pos hg,VU bU];refine tz ?_;unfold cf
   grind
  ·rw[if_neg hg]
   unfold cf;rw[zj,show o.aN.toNat=0 by omega];rfl
 ·rw[if_pos s1,t1]
  refine tz ?_;have zj:bb o=o.aN+1:=by unfold bb;omega
  unfold cf
  grind
 omega
theorem Mr:N1 w.aa (o.aP+1) (cf o)<=atR w.aa w.now o/\w.now+1<=atR w.aa w.now o/\0<=atR w.aa w.now o:=by
 have hP:=kL h ho;have Cg:=h.now;have h2:o.aP<=w.now:=hP.ok.aP.2;unfold atR
 cases hl:(cf o).getLast? with
 |none=>
  rw[List.getLast?_eq_none_iff]at hl
  rw[hl];refine⟨?_,?_,?_⟩<;>simp only[N1,List.foldl_nil]<;>omega
 |some t=>
  rw[D4 hl]
  grind
theorem Ew{more:List av}(hs:¬o.state=3)(iq:¬fZ w.aa o=o.a8)
 (pk:∀t∈cf o,jJ bs ((i+1:Nat):Int) t o.ab=YJ) (uI:∀t∈more,jJ bs ((i+1:Nat):Int) t o.ab=YJ)
 (hc:iE w.aa (fZ w.aa o) (atR w.aa w.now o) more) (hl:more.length<=20) (Ih:more=[]\/(fZ w.aa o::more.map (cg w.aa)).Nodup/\(fZ w.aa o::more.map (cg w.aa)).getLast?=YH o.a8)
 (ZgS:more.any (dx w.ah)=YK):xd w.aa bs w.ah w.now i (fK o (cf o++more))=true:=by
 have hP:=kL h ho;have hn:=(dH h.mg).1;have hlen:=tS h ho;obtain⟨k0,k1,k2,k3⟩:=nr h ho;obtain⟨g0,g1⟩:=hP.ok.aN;have Cg:=h.now;obtain⟨a1,a2,a3⟩:=Mr h ho;have hep:=D5 h ho hs;have hv:=h.ord i o ho;unfold xd jR at hv⊢
 simp only[V6,WG,X7,X8]at hv⊢
 obtain⟨⟨⟨⟨⟨⟨⟨⟨⟨⟨⟨h1,h2⟩,h3⟩,h4⟩,h5⟩,h6⟩,h7⟩,h8⟩,h9⟩,wm⟩,Eb⟩,TC⟩:=hv;have Cb:iE w.aa o.au (o.aP+1) (cf o++more):=by
  have:=hP.chain;rw[sG h ho]at this
  refine(za _).2 ⟨((za _).1 this).1,?_⟩;rw[hep];exact Fq hc a1
 have ME:=pW Cb;have FG:∀(j:Nat),j<(cf o).length->(cf o++more)[j]?=o.aG[j]?:=λj hj=>by
  rw[List.getElem?_append_left hj];exact ID h ho hj
 refine⟨⟨⟨⟨⟨⟨⟨⟨⟨⟨⟨h1,h2⟩,h3⟩,h4⟩,h5⟩,h6⟩,h7⟩,?_⟩,?_⟩,?_⟩,?_⟩,?_⟩
 ·simp only[fK,V3];omega
 ·refine cB.2 λj t hj=>?_
  have Cd:(cf o++more)[j]?=YH t:=hj;have htm:=VV Cd;unfold tY;simp only[V6,WG,Xx,X7,X8,We];refine⟨⟨ME t htm,?_⟩,λhe hj1=>?_⟩
  ·rcases List.mem_append.1 htm with hm|hm
   ·exact pk t hm
   ·exact uI t hm
  ·have Zd2:j+1<(cf o++more).length:=hj1
   have he':cg w.aa t=o.a8:=he;rw[V3]at Zd2
   by_cases hjk:j<(cf o).length
   ·rw[FG j hjk]at Cd
    have:=cB.1 h9 j t Cd;unfold tY at this
    simp only[V6,WG,Xx,X7,X8,We]at this
    have Dw:=(VT.1 Cd).1;refine iq ?_;rw[<-hep,<-he'];refine tz ?_
    grind
   ·rcases Ih with rfl|⟨hnd,hla⟩
    ·grind
    rw[List.getLast?_eq_getElem?,VZ,List.length_map,Nat.add_sub_cancel]at hla
    have q1:(fZ w.aa o::more.map (cg w.aa))[j-(cf o).length+1]?=YH o.a8:=by grind
    have q2:=List.pairwise_iff_getElem.1 hnd (j-(cf o).length+1) more.length Yd Ye X9
    grind
 ·have hw:aI (o.aP+1)=o.aP+1:=by
   have q2:o.aP<=w.now:=h6.2;rw[aR X9]
  show(eK w.aa (cf o++more) o.au (Kx w.aa o.au (cf o++more)) (aI (o.aP+1))).getD YK=YJ;have MA:(cf o++more).length<=1048576:=by grind
  rw[hw,zN h.fit.eO hn MA X9 (Sv h.fit.eO hn X9 ME) Cb rfl];rfl
 ·have hS:mX w.aa (fK o (cf o++more)) w.now:=by
   refine⟨λt hg ht=>?_,?_⟩
   ·have hg':0<o.aN:=hg
    have Ei:(cf o++more)[(o.aN-1).toNat]?=YH t:=ht;rw[FG _ X9]at Ei
    exact hP.st.past t hg' Ei
   ·have Ij:pn w.aa (fK o (cf o++more))=pn w.aa o:=by
     unfold pn
     by_cases hg:0<o.aN
     ·rw[if_pos hg,if_pos (show 0<(fK o (cf o++more)).aN from hg)]
      show(((cf o++more)[(o.aN-1).toNat]?).map (cg w.aa)).getD ⟨#[]⟩=_;rw[FG _ X9]
     ·rw[if_neg hg,if_neg (show ¬0<(fK o (cf o++more)).aN from hg)];rfl
    rcases hP.st.cases with⟨s1,s2,s3,s4,s5⟩ |⟨s1,s2,s3,t,t1,t2,t3⟩ |s
    ·refine .inl ⟨s1,by rw[Ij];exact s2,by rw[Ij];exact s3,s4,λt ht=>?_⟩
     have Ei:(cf o++more)[o.aN.toNat]?=YH t:=ht;have zj:bb o=o.aN:=by unfold bb;omega
     rw[List.getElem?_append_right X9,show o.aN.toNat-(cf o).length=0 by omega]at Ei
     cases more with
     |nil=>grind
     |cons x xs=>
      obtain rfl:x=t:=by grind
      have:=hc.2.2.1;omega
    ·have zj:bb o=o.aN+1:=by unfold bb;omega
     refine .inr (.inl ⟨s1,s2,s3,t,?_,t2,t3⟩);show(cf o++more)[o.aN.toNat]?=YH t
     grind
    omega
  rw[(tW h.fit.eO hn (o:=fK o (cf o++more)) ⟨g0,by simp only[fK,V3];omega⟩ (by simp only[fK,V3];omega) ME w.now).2 hS];rfl
 ·have hd:((fK o (cf o++more)).aG.drop (bb (fK o (cf o++more))).toNat)=more:=by
   show(cf o++more).drop (bb o).toNat=more
   grind
  grind
theorem vg{t:av}(ht:t∈o.aG):(⟨((i+1:Nat):Int),t,o.ab⟩:aq)∈w.ar:=by
 obtain⟨j,hj,rfl⟩:=List.getElem_of_mem ht;have:=cB.1 (kL h ho).ok.aG j _ (VU hj);unfold tY at this
 unfold jJ at this
 grind
theorem Ep{t:av}(ht:t∈cf o):(⟨((i+1:Nat):Int),t,o.ab⟩:aq)∈gl w i o:=by
 have hP:=kL h ho;have hn:=(dH h.mg).1;have hnd:=u4 h.fit.eO hn hP.chain;rw[sG h ho]at hnd
 have hw:t∈o.aG:=by rw[sG h ho];grind
 exact Et.2 ⟨vg h ho hw,λhx=>(List.nodup_append.1 hnd).2.2 t ht t hx.2 rfl⟩
theorem R0:(gl w i o).length+(lZ o).length=w.ar.length:=by
 have hP:=kL h ho;have hn:=(dH h.mg).1;have hnd:=u4 h.fit.eO hn hP.chain;rw[sG h ho]at hnd
 exact NZ h.mg (List.nodup_append.1 hnd).2.1 λt ht=>vg h ho (by rw[sG h ho];grind)
theorem IK{more:List av}(hb:cn w.aa bs=YJ)(hl:bs.length=(gl w i o).length+more.length)(u9:∀b∈gl w i o,b∈bs)
 (hO:xd w.aa bs w.ah w.now i (fK o (cf o++more))=YJ) (hm:more.length<=20):uU (xa w i o (cf o++more) bs) (λj=>if j=i then w.ah else c j):=by
 have hlen:=tS h ho;have zi:=(dH hb).2;have TH:(cf o).length+(lZ o).length=o.aG.length:=by
  have:=congrArg List.length (sG h ho)
  grind
 refine⟨⟨h.fit.eO,?_,?_,h.fit.ah,h.fit.aH,h.fit.skip,λx hx=>?_⟩,hb,h.now,?_,λj x hx=>?_,?_,λj=>?_⟩
 ·simp only[xa,WI];exact h.fit.ae
 ·simp only[xa];omega
 ·rcases List.mem_or_eq_of_mem_set hx with hx|rfl
  ·exact h.fit.aG x hx
  ·simp only[fK,V3];omega
 ·simp only[xa,WI];exact h.IU
 ·have uJ:(w.ae.set i (fK o (cf o++more)))[j]?=YH x:=hx
  show xd w.aa bs (if j=i then w.ah else c j) w.now j x=YJ
  by_cases FH:j=i
  ·grind
  ·rw[if_neg FH]
   rw[List.getElem?_set_ne (λe=>FH e.symm)]at uJ
   have hv:=h.ord j x uJ;unfold xd jR at hv⊢
   simp at hv⊢
   obtain⟨⟨⟨⟨⟨⟨⟨⟨⟨⟨⟨h1,h2⟩,h3⟩,h4⟩,h5⟩,h6⟩,h7⟩,h8⟩,h9⟩,wm⟩,Eb⟩,TC⟩:=hv;refine⟨⟨⟨⟨⟨⟨⟨⟨⟨⟨⟨h1,h2⟩,h3⟩,h4⟩,h5⟩,h6⟩,h7⟩,h8⟩,?_⟩,wm⟩,Eb⟩,TC⟩;refine cB.2 λa t ha=>?_
   have:=cB.1 h9 a t ha;unfold tY at this⊢
   simp at this⊢
   refine⟨⟨this.1.1,?_⟩,this.2⟩;have xq:=this.1.2;unfold jJ at xq⊢
   obtain⟨y,y1,y2⟩:=W7.1 xq;obtain rfl:=X3 y2;exact W7.2 ⟨_,u9 _ (Et.2 ⟨y1,λe=>FH Yd⟩),y2⟩
 ·have:=Nk (λo:az=>o.aG.length) (fK o (cf o++more)) ho
  have e:(fK o (cf o++more)).aG.length=(cf o).length+more.length:=V3;simp only[e]at this
  have hs:=h.sum;have Il:=R0 h ho;show((w.ae.set i (fK o (cf o++more))).map λo=>o.aG.length).sum=bs.length
  omega
 ·show(if j=i then w.ah else c j).length<=1048576
  split
  ·exact h.fit.ah
  ·exact h.cl j
theorem LF(hs:¬o.state=3)(iq:¬fZ w.aa o=o.a8):∃w',eZ w ((i+1:Nat):Int)=YH w'/\ua w i o w'/\uU w' (λj=>if j=i then w.ah else c j):=by
 have hP:=kL h ho;have hn:=(dH h.mg).1;have hlen:=tS h ho;have Dk:=(VT.1 ho).1;have hol:=h.IU;obtain⟨w',e,hR⟩:=Zac h.fit hn h.mg h.now X9 ho hP.ok.aN (λh2=>by
  rcases hP.ok.cases with c1|c1|c1
  all_goals omega) hP.ok.bj X9
 refine⟨w',e,hR,?_⟩
 rcases hR with⟨_,rfl⟩ |⟨aG,bs,hN,rfl⟩
 ·have hO:=Ew h ho (more:=[]) (bs:=gl w i o) hs iq (λt ht=>?_) Ye trivial Ye (.inl rfl) rfl
  ·have:=IK h ho (more:=[]) (bs:=gl w i o) (yW h.fit.eO h.mg (tw _ _ _)) Ye (λb hb=>hb) hO Ye
   grind
  ·exact W7.2 ⟨_,Ep h ho ht,X1 rfl⟩
 ·obtain⟨a1,a2,a3⟩:=Mr h ho
  have Dt:(if 0 > atR w.aa w.now o then 0 else atR w.aa w.now o)=atR w.aa w.now o:=if_neg X9
  have Cb:=hN.JS.chain;rw[Dt]at Cb
  have wq:=hN.perm.length_eq;have AU:(gD ((i+1:Nat):Int) o.ab aG).length=aG.length:=by unfold gD;simp
  rw[V3,AU]at wq
  have hO:=Ew h ho (more:=aG) (bs:=bs) hs iq (λt ht=>?_) (λt ht=>?_) Cb hN.JS.len (.inr ⟨hN.JS.nodup,hN.JS.last⟩) ?_
  ·exact IK h ho hN.mg wq (λb hb=>hN.perm.mem_iff.2 (Xc _ hb)) hO hN.JS.len
  ·exact W7.2 ⟨_,hN.perm.mem_iff.2 (Xc _ (Ep h ho ht)),X1 rfl⟩
  ·refine W7.2 ⟨⟨((i+1:Nat):Int),t,o.ab⟩,hN.perm.mem_iff.2 (List.mem_append_right _ ?_),X1 rfl⟩
   unfold gD;grind
  ·refine List.any_eq_false.2 λt ht=>?_
   have:=(hN.JS.found t ht).1;rw[jX,jk h.fit.ah]at this
   unfold dx
   grind
end
def fm(t:av)(y1:ax)(s0:Int×Int×Int×Int×(List bK)×(List Int)×(List az)×(List aq)×(List av)×(List bq)×(List Int)):Option ((Int×Int×Int×Int×(List bK)×(List Int)×(List az)×(List aq)×(List av)×(List bq)×(List Int))⊕(Int×Int×Int×(List bK)×(List Int)×(List az)×(List aq)×(List av)×(List bq)×(List Int))):=
 cond (YL (s0.1<(y1.ae.length:Int)))
 ((aB s0.2.2.2.2.2.2.1 s0.1).bind λy6=>
 (gI y6).bind λy7=>
 (bW (gg y7 (y6.aG.length:Int) y6.aG.length)).bind λ_=>
 (eR (cH y6.aG y7 (y6.aG.length:Int)) t).bind λy8=>
 cond y8
 ((bh [2,3,4,5,6,7,8,9]).bind λ_=>
 (eZ (⟨(⟨s0.2.2.2.2.1,s0.2.2.2.2.2.1,s0.2.1⟩:aj),s0.2.2.2.2.2.2.1,s0.2.2.2.2.2.2.2.1,s0.2.2.2.2.2.2.2.2.1,s0.2.2.1,s0.2.2.2.2.2.2.2.2.2.1,s0.2.2.2.2.2.2.2.2.2.2,s0.2.2.2.1⟩:ax) (aI (s0.1+1))).bind λy9=>
 YH (.inl ((aI (s0.1+1)),y9.aa.change,y9.now,y9.bd,y9.aa.aA,y9.aa.off,y9.ae,y9.ar,y9.ah,y9.aH,y9.skip)))
 (YH (.inl ((aI (s0.1+1)),s0.2.1,s0.2.2.1,s0.2.2.2.1,s0.2.2.2.2.1,s0.2.2.2.2.2.1,s0.2.2.2.2.2.2.1,s0.2.2.2.2.2.2.2.1,s0.2.2.2.2.2.2.2.2.1,s0.2.2.2.2.2.2.2.2.2.1,s0.2.2.2.2.2.2.2.2.2.2))))
 (YH (.inr (s0.2.1,s0.2.2.1,s0.2.2.2.1,s0.2.2.2.2.1,s0.2.2.2.2.2.1,s0.2.2.2.2.2.2.1,s0.2.2.2.2.2.2.2.1,s0.2.2.2.2.2.2.2.2.1,s0.2.2.2.2.2.2.2.2.2.1,s0.2.2.2.2.2.2.2.2.2.2)))
instance (t:av)(y1:ax):bo (fm t y1):=⟨λs0=>(U 3 (.be 0 0 0::.be 1 0 0::.un::.be 2 0 0::(U 44 (vi (y1.ae.length:Int)::vi s0.1::(U 19 []))))),λs0=>[YH ⟨.of 46,2,[[vi t.bD,vi t.day]]⟩,YH ⟨.of 33,10,[[.v (.slice YI 0 0),.v (.slice YI 0 0),vi 0,.v (.slice YI 0 0),.v (.slice YI 0 0),.v (.slice YI 0 0),vi 0,.v (.slice YI 0 0),.v (.slice YI 0 0),vi 0]]⟩,YH ⟨.of 33,10,[[.ms 3,.ms 4,vi s0.2.1,.ms 5,.ms 6,.ms 7,vi s0.2.2.1,.ms 8,.ms 9,vi s0.2.2.2.1]]⟩,YH ⟨.of 144,6,s0.2.2.2.2.1.map bn⟩,YH ⟨.of 3,1,s0.2.2.2.2.2.1.map aE⟩,YH ⟨⟨94,YH 46⟩,11,s0.2.2.2.2.2.2.1.map ba⟩,YH ⟨.of 147,4,s0.2.2.2.2.2.2.2.1.map aC⟩,YH ⟨.of 46,2,s0.2.2.2.2.2.2.2.2.1.map aW⟩,YH ⟨.of 151,6,s0.2.2.2.2.2.2.2.2.2.1.map bt⟩,YH ⟨.of 3,1,s0.2.2.2.2.2.2.2.2.2.2.map aE⟩]⟩
def kx(w:ax)(t:av):Option (ax×Bool):=
 (dA w).bind λy1=>
 (gK w).bind λy2=>
 cond (!y2)
 (YH (y1,YK))
 ((dQ w.aa t).bind λy3=>
 cond (!y3)
 (YH (y1,YK))
 ((df w.aa t).bind λy4=>
 cond (YL (y4<=w.now))
 (YH (y1,YK))
 ((eR w.ah t).bind λy5=>
 cond y5
 (YH (y1,YK))
 (cond (YL (20<=(w.ah.length:Int)))
 (YH (y1,YK))
 ((bW (bm ((y1.ah:List av).length+([t]:List av).length) 16)).bind λ_=>
 (aD (fm t y1) NN (0,y1.aa.change,y1.now,y1.bd,y1.aa.aA,y1.aa.off,y1.ae,y1.ar,((y1.ah:List av)++[t]),y1.aH,y1.skip)).bind (λo0=>
 YH ((⟨(⟨o0.2.2.2.1,o0.2.2.2.2.1,o0.1⟩:aj),o0.2.2.2.2.2.1,o0.2.2.2.2.2.2.1,o0.2.2.2.2.2.2.2.1,o0.2.1,o0.2.2.2.2.2.2.2.2.1,o0.2.2.2.2.2.2.2.2.2,o0.2.2.1⟩:ax),YJ)))))))
instance (w:ax)(t:av):CT prog (kx w t):=⟨78,[.ag (fY w),.ag (aW t)],[],λr=>.tu [.ag [.ms 0,.ms 1,vi r.1.aa.change,.ms 2,.ms 3,.ms 4,vi r.1.now,.ms 5,.ms 6,vi r.1.bd],vb r.2],λr=>[YH ⟨.of 144,6,r.1.aa.aA.map bn⟩,YH ⟨.of 3,1,r.1.aa.off.map aE⟩,YH ⟨⟨94,YH 46⟩,11,r.1.ae.map ba⟩,YH ⟨.of 147,4,r.1.ar.map aC⟩,YH ⟨.of 46,2,r.1.ah.map aW⟩,YH ⟨.of 151,6,r.1.aH.map bt⟩,YH ⟨.of 3,1,r.1.skip.map aE⟩],ck (kx.eq_1 ..) func78 ntmps78 results78⟩
end Go.Proofs.YtdilaemengjipaaGreatDoor
