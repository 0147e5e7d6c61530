/- A part of the proof of the statement in the last file of this claim: texts on the language of the program and on its functions. No condition. -/
import Derived.Test.YtdilaemengjipaaGreatDoorCJ27
import Derived.Test.YtdilaemengjipaaGreatDoorCJ14
import Derived.Lib.Hide
import Derived.Test.YtdilaemengjipaaGreatDoorCJ1
set_option linter.unusedVariables false
set_option linter.unusedSimpArgs false
set_option linter.unusedSectionVars false
open Go.Value renaming int->Y1
open Go.IntKind renaming i64->Y2
open Go renaming undef->Y3
open Option renaming some->YW,none->YX
open Bool renaming true->YY,false->YZ
open Decidable renaming decide->Y0
open Go.Proofs.Tryz
set_option maxHeartbeats 40000000
open List renaming length_append->VZ,length_cons->V0,flatMap_cons->XT,getElem?_map->Wk,getElem?_eq_getElem->VV,all_eq_true->V2
open Option.some renaming inj->VX
open Nat renaming le_refl->VY
namespace Go.Proofs.YtdilaemengjipaaGreatDoor
set_option maxRecDepth 10000
open Go.RowKit Go.Sort
def Tp(a:ba):Bool:=match bT a,bL a with
 |some _,YW t=>Y0 (t.size<=4000000)
 |_,_=>YZ
def KU(a:ba):Bool:=(bT a).getD YZ
def ki(a:ba):List UInt8:=((bL a).getD ⟨#[]⟩).data.toList++[10]
def eM(l:List ba):Option ByteArray:=
 if l.length<=1048576/\l.all Tp=YY then YW (if l.all KU=YY then cE (l.flatMap ki)else⟨#[]⟩)else YX
theorem PD{a:ba}(h:Tp a=YY):(ki a).length<=4000001:=by
 unfold Tp at h
 unfold ki
 cases h1:bT a with
 |none=>rw[h1]at h;cases h
 |some b=>
  cases h2:bL a with
  |none=>rw[h1,h2]at h;cases h
  |some t=>
   rw[h1,h2]at h
   have:=Yh h;have e:t.data.toList.length=t.size:=by rw[Array.length_toList];rfl
   simp only[Option.getD_some,VZ,V0,List.length_nil];omega
theorem IF{l:List ba}(h:l.all Tp=YY):(l.flatMap ki).length<=4000001*l.length:=by
 induction l with
 |nil=>simp
 |cons a l ih=>
  rw[List.all_cons,Bool.and_eq_true]at h
  have:=PD h.1;have:=ih h.2;rw[XT,VZ,V0];omega
end Go.Proofs.YtdilaemengjipaaGreatDoor
namespace Go.Proofs.YtdilaemengjipaaGreatDoor
set_option maxRecDepth 10000
open Go.RowKit Go.Lib
set_option maxRecDepth 100000
variable {a:ba}
theorem oY{w w':World}{b o:Nat}{v:Value}(h:w.cell? ⟨b,o,YX⟩=YW v)(hb:b<w.heap.size)(hu:Up w w'):w'.cell? ⟨b,o,YX⟩=YW v:=(hu.cell (p:=⟨b,o,YX⟩) hb).trans h
theorem ZhT{w:World}{S:Nat->Prop}{a x:Value}(h:eI w S (.v a) x):x=a:=by cases h;rfl
theorem ZfW{w:World}{S:Nat->Prop}{es:List (List PV)}{x:Value}(h:eI w S (.sl es) x):∃A n c,x=.slice A n c:=by
 cases h with
 |nil=>exact⟨_,_,_,rfl⟩
 |sl=>exact⟨_,_,_,rfl⟩
theorem Rr{T e:TypeId}{B b:Nat}{bs:List Value}{w w':World}(h:IsBuilder T e B b bs w)(hu:Up w w'):IsBuilder T e B b bs w':=by
 have key:∀{p:Value},BuilderAt T e B b p bs w->BuilderAt T e B b p bs w':=λ{p} h=>by
  have bX:=h.lt;obtain⟨hB,v,hv,oC,gZ⟩:=h;exact⟨hB,v,(hu.block b bX).trans hv,oC.kept (row:=YX) ⟨hu.os,hu.tape,hu.output,hu.size,λk hk _=>hu.block k hk⟩ (Classical.em _),gZ⟩
 exact h.elim (λx=>.inl (key x)) (λx=>.inr (key x))
def M0(a:ba)(x6:Value):Array Value:=#[I a.kind,I a.aJ.label.aw,I a.aJ.label.bO,.string a.aJ.label.aY,.string a.aJ.ar,I a.aJ.ab,x6,I a.aJ.value,I a.order,I a.bC,I a.bI,I a.bk.bH,I a.bk.day]
section
variable {l:List ba} {w:World} {S:Nat->Prop} (hS:∀b,S b->b<w.heap.size) {b off:Nat} {u:Nat->Nat->Value} (QR:S b)
 (hc:∀(i:Nat) (cs:List PV) (j:Nat) (p:PV),(l.map cX)[i]?=YW cs->cs[j]?=YW p->w.cell? ⟨b,off+i*13+j,YX⟩=YW (u i j))
 (hr:∀(i:Nat) (cs:List PV) (j:Nat) (p:PV),(l.map cX)[i]?=YW cs->cs[j]?=YW p->eI w S p (u i j))
include hS QR hc hr
theorem Oy{k:Nat}(hx:l[k]?=YW a){wr:World}(hu:Up w wr):∃A6 n6 c6,eI w S (.sl (a.aJ.bE.map aG)) (.slice A6 n6 c6)/\
 wr.cell? ⟨b,off+k*13,YX⟩=YW (I a.kind)/\wr.cell? ⟨b,off+k*13+1,YX⟩=YW (I a.aJ.label.aw)/\wr.cell? ⟨b,off+k*13+2,YX⟩=YW (I a.aJ.label.bO)/\wr.cell? ⟨b,off+k*13+3,YX⟩=YW (.string a.aJ.label.aY)/\
 wr.cell? ⟨b,off+k*13+4,YX⟩=YW (.string a.aJ.ar)/\wr.cell? ⟨b,off+k*13+5,YX⟩=YW (I a.aJ.ab)/\wr.cell? ⟨b,off+k*13+6,YX⟩=YW (.slice A6 n6 c6)/\wr.cell? ⟨b,off+k*13+7,YX⟩=YW (I a.aJ.value)/\
 wr.cell? ⟨b,off+k*13+8,YX⟩=YW (I a.order)/\wr.cell? ⟨b,off+k*13+9,YX⟩=YW (I a.bC)/\wr.cell? ⟨b,off+k*13+10,YX⟩=YW (I a.bI)/\wr.cell? ⟨b,off+k*13+11,YX⟩=YW (I a.bk.bH)/\wr.cell? ⟨b,off+k*13+12,YX⟩=YW (I a.bk.day):=by
 have hbw:=hS b QR;have so:(l.map cX)[k]?=YW (cX a):=by rw[Wk,hx];rfl
 have yl:∀(j:Nat) (p:PV),(cX a)[j]?=YW p->wr.cell? ⟨b,off+k*13+j,YX⟩=YW (u k j):=λj p hp=>by
  rw[hu.cell (p:=⟨b,off+k*13+j,YX⟩) hbw];exact hc k _ j p so hp
 have hv:∀(j:Nat) (x:Value),(cX a)[j]?=YW (.v x)->wr.cell? ⟨b,off+k*13+j,YX⟩=YW x:=λj x hp=>by
  rw[yl j _ hp,ZhT (hr k _ j _ so hp)]
 obtain⟨A6,n6,c6,e6⟩:=ZfW (hr k _ 6 _ so rfl);have r6:=hr k _ 6 _ so rfl;have c6':=yl 6 _ rfl;rw[e6]at r6 c6'
 exact⟨A6,n6,c6,r6,hv 0 _ rfl,hv 1 _ rfl,hv 2 _ rfl,hv 3 _ rfl,hv 4 _ rfl,hv 5 _ rfl,c6',hv 7 _ rfl,hv 8 _ rfl,hv 9 _ rfl,hv 10 _ rfl,hv 11 _ rfl,hv 12 _ rfl⟩
omit hc hr QR in
theorem Rh{A6:Option Addr}{n6 c6:Nat}(h6:eI w S (.sl (a.aJ.bE.map aG)) (.slice A6 n6 c6)){W:World}(hu:Up w W):
 ∀(i:Nat) (p:PV),[PV.ag (cX a)][i]?=YW p->∃x,(#[.agg (M0 a (.slice A6 n6 c6))]:Array Value)[i]?=YW x/\dG W (E1 (λb=>b<W.heap.size) (λ_=>YX) 0) p x:=by
 have h6':eI W (λb=>b<W.heap.size) (.sl (a.aJ.bE.map aG)) (.slice A6 n6 c6):=h6.ext (λb hb=>Nat.lt_of_lt_of_le (hS b hb) hu.size) (λb o hb=>hu.cell (p:=⟨b,o,YX⟩) (hS b hb))
 intro i p hp
 match i,hp with
 |0,hp=>
  obtain rfl:=VX hp;refine⟨_,rfl,.ag _ _ rfl (λj x KS=>?_) λj p x hp KS=>?_⟩
  ·match j,KS with
   |0,h|1,h|2,h|3,h|4,h|5,h|6,h|7,h|8,h|9,h|10,h|11,h|12,h=>obtain rfl:=VX h;rfl
   |j+13,h=>simp[M0]at h
  ·match j,hp,KS with
   |6,hp,D3=>obtain rfl:=VX D3;obtain rfl:=VX hp;exact .c h6'
   |0,hp,D3|1,hp,D3|2,hp,D3|3,hp,D3|4,hp,D3|5,hp,D3|7,hp,D3|8,hp,D3|9,hp,D3|10,hp,D3|11,hp,D3|12,hp,D3=>obtain rfl:=VX D3;obtain rfl:=VX hp;exact .c (.v _ rfl)
   |j+13,hp,_=>simp[cX]at hp
 |n+1,hp=>simp at hp
end
theorem PU(h:Tp a=YY):bT a=YW (KU a)/\∃tt:ByteArray,bL a=YW tt/\tt.size<=4000000/\ki a=tt.data.toList++[10]:=by
 unfold Tp at h
 cases h1:bT a with
 |none=>rw[h1]at h;cases h
 |some v=>
  cases h2:bL a with
  |none=>rw[h1,h2]at h;cases h
  |some t=>
   rw[h1,h2]at h
   exact⟨by unfold KU;rw[h1];rfl,t,rfl,Yh h,by unfold ki;rw[h2];rfl⟩
theorem LO(l:List ba)(hl:l.length<=1048576)(hok:l.all Tp=YY)(w:World)(S:Nat->Prop)(hS:∀b,S b->b<w.heap.size)(ht:TabF w)
 (b off c:Nat) (u:Nat->Nat->Value) (QR:S b)
 (hc:∀(i:Nat) (cs:List PV) (j:Nat) (p:PV),(l.map cX)[i]?=YW cs->cs[j]?=YW p->w.cell? ⟨b,off+i*13+j,YX⟩=YW (u i j))
 (hr:∀(i:Nat) (cs:List PV) (j:Nat) (p:PV),(l.map cX)[i]?=YW cs->cs[j]?=YW p->eI w S p (u i j)) (hn:l.length<=c) (hm:c<=maxLen):
 Calls prog 17 #[.slice (YW ⟨b,off,YX⟩) l.length c] w λe w'=>e=.returned (.string (if l.all KU=YY then cE (l.flatMap ki)else⟨#[]⟩))/\Up w w':=by
 generalize hR:(if l.all KU=YY then cE (l.flatMap ki)else(⟨#[]⟩:ByteArray))=RR
 have HR:Hid ((if l.all KU=YY then cE (l.flatMap ki)else(⟨#[]⟩:ByteArray))=RR):=hR
 clear hR;have hbw:=hS b QR;have Sh:=fun(k:Nat) (a:ba) (hx:l[k]?=YW a) (wr:World) (hu:Up w wr)=>Oy hS QR hc hr hx hu
 have HC:Hid _:=Sh;have hargs:=fun(a:ba) (A6:Option Addr) (n6 c6:Nat) (h6:eI w S (.sl (a.aJ.bE.map aG)) (.slice A6 n6 c6)) (W:World) (hu:Up w W)=>Rh hS h6 hu
 have HA:Hid _:=hargs;have HT:Hid (TabF w):=ht;have HK:Hid (l.all Tp=YY):=hok;clear Sh hargs ht hok hc hr hS
 go_enter func17,ntmps17
 go_wp2
 go_loopw [10] (λii wr=>∃(k:Nat),k<=l.length/\ii=Y1 Y2 k/\(l.take k).all KU=YY/\Lib.IsBuilder 108 5 w.heap.size w.heap.size (Lib.byteCells ((l.take k).flatMap ki)) wr/\Up w wr) (λii _=>l.length-(intOf ii).toNat)
 case atStart=>
  exact⟨0,Yn,rfl,by simp,Lib.fresh_isBuilder 108 5 w,by(repeat(first|exact Up.rfl' _|(refine Up.al _ ?_) |(refine Up.dr _ ?_) |(refine Up.rR ?_) |(refine Up.sc ?_ Yt _) |(refine Up.step Yz ?_)))⟩
 case round=>
  obtain⟨k,hk,rfl,tr,hI,hu⟩:=hrel;have hws:=hu.size;have HB:Hid (IsBuilder 108 5 w.heap.size w.heap.size (Lib.byteCells ((l.take k).flatMap ki)) wr):=hI;have HL:Hid ((l.take k).all KU=YY):=tr;clear hI tr
  by_cases bX:k<l.length
  ·obtain⟨a,hx⟩:∃a,l[k]?=YW a:=⟨_,VV bX⟩
   have Ge:a∈l:=List.mem_of_getElem? hx;have Po:l.take (k+1)=l.take k++[a]:=by rw[List.take_add_one,hx];rfl
   obtain⟨hIs,tt,hFm,hts,Zb4⟩:=PU (V2.1 HK.out a Ge);obtain⟨A6,n6,c6,r6,d0,d1,d2,d3,d4,d5,d6,d7,d8,d9,d10,d11,d12⟩:=HC.out k a hx wr hu;have hpre:((l.take k).flatMap ki).length<=4000001*k:=by
    have h1:(l.take k).all Tp=true:=by
     rw[V2];intro x uq;exact V2.1 HK.out x (List.mem_of_mem_take uq)
    have:=IF h1;rw[List.length_take]at this
    omega
   have cI:=CT.ok (P:=prog) hIs;have cF:=CT.ok (P:=prog) hFm;simp only[CT.f,CT.args,CT.m0,CT.res,CT.mem]at cI cF
   have ZeT:=fun(W:World) (hu:Up w W)=>fa.val cI (tab_of_F (uM HT.out hu)) (vs:=#[.agg (M0 a (.slice A6 n6 c6))]) rfl (HA.out a A6 n6 c6 r6 W hu)
   have ZeS:=fun(W:World) (hu:Up w W)=>fa.val cF (tab_of_F (uM HT.out hu)) (vs:=#[.agg (M0 a (.slice A6 n6 c6))]) rfl (HA.out a A6 n6 c6 r6 W hu)
   have HI:Hid (∀W:World,Up w W->Calls prog 26 #[.agg #[I a.kind,I a.aJ.label.aw,I a.aJ.label.bO,.string a.aJ.label.aY,.string a.aJ.ar,I a.aJ.ab,.slice A6 n6 c6,I a.aJ.value,I a.order,I a.bC,I a.bI,I a.bk.bH,I a.bk.day]] W λe w'=>e=.returned (.bool (KU a))/\Up W w'):=ZeT
   have HF:Hid (∀W:World,Up w W->Calls prog 11 #[.agg #[I a.kind,I a.aJ.label.aw,I a.aJ.label.bO,.string a.aJ.label.aY,.string a.aJ.ar,I a.aJ.ab,.slice A6 n6 c6,I a.aJ.value,I a.order,I a.bC,I a.bI,I a.bk.bH,I a.bk.day]] W λe w'=>e=.returned (.string tt)/\Up W w'):=ZeS
   have HM:Hid (a∈l):=Ge;have HTK:Hid (l.take (k+1)=l.take k++[a]):=Po;have HLN:Hid (ki a=tt.data.toList++[10]):=Zb4;have HPR:Hid (((l.take k).flatMap ki).length<=4000001*k):=hpre;clear ZeT ZeS hIs hFm cI cF r6 hx Ge Po Zb4 hpre
   cases hj:KU a with
   |false=>
    have HJ:Hid (KU a=YZ):=hj;clear hj
    go_wp2_with (go_at_call 26;refine(HI.out _ Yo).mono ?_;rintro e w5 ⟨rfl,zL⟩;rw[HJ.out];refine Hid.out ?_)
    have hu6:Up w w5:=Up.step zL Yo;have hn:l.all KU=false:=by
     rw[List.all_eq_false];exact⟨a,HM.out,by rw[HJ.out];simp⟩
    have HN:Hid (l.all KU=YZ):=hn;clear hn d0 d1 d2 d3 d4 d5 d6 d7 d8 d9 d10 d11 d12 zL;refine Lib.hid ?_
    go_wp2
    go_ret
    exact⟨by rw[<-HR.out,HN.out];rfl,hu6⟩
   |true=>
    have HJ:Hid (KU a=YY):=hj;clear hj
    go_wp2_with (go_at_call 26;refine(HI.out _ Yo).mono ?_;rintro e w5 ⟨rfl,zL⟩;rw[HJ.out];refine Hid.out ?_)
    have hu6:Up w w5:=Up.step zL Yo;have e0:w5.cell? ⟨wr.heap.size,0,YX⟩=YW (I a.kind):=oY Yq Yq zL;have e1:w5.cell? ⟨wr.heap.size,1,YX⟩=YW (I a.aJ.label.aw):=oY Yq Yq zL;have e2:w5.cell? ⟨wr.heap.size,2,YX⟩=YW (I a.aJ.label.bO):=oY Yq Yq zL;have e3:w5.cell? ⟨wr.heap.size,3,YX⟩=YW (.string a.aJ.label.aY):=oY Yq Yq zL;have e4:w5.cell? ⟨wr.heap.size,4,YX⟩=YW (.string a.aJ.ar):=oY Yq Yq zL;have e5:w5.cell? ⟨wr.heap.size,5,YX⟩=YW (I a.aJ.ab):=oY Yq Yq zL;have e6:w5.cell? ⟨wr.heap.size,6,YX⟩=YW (.slice A6 n6 c6):=oY Yq Yq zL;have e7:w5.cell? ⟨wr.heap.size,7,YX⟩=YW (I a.aJ.value):=oY Yq Yq zL;have e8:w5.cell? ⟨wr.heap.size,8,YX⟩=YW (I a.order):=oY Yq Yq zL;have e9:w5.cell? ⟨wr.heap.size,9,YX⟩=YW (I a.bC):=oY Yq Yq zL;have e10:w5.cell? ⟨wr.heap.size,10,YX⟩=YW (I a.bI):=oY Yq Yq zL;have e11:w5.cell? ⟨wr.heap.size,11,YX⟩=YW (I a.bk.bH):=oY Yq Yq zL;have e12:w5.cell? ⟨wr.heap.size,12,YX⟩=YW (I a.bk.day):=oY Yq Yq zL;have hI5:=Rr HB.out (Up.step zL Yo);have HB5:=Lib.hid hI5;clear hI5 zL d0 d1 d2 d3 d4 d5 d6 d7 d8 d9 d10 d11 d12;refine Lib.hid ?_
    go_wp2_with (go_at_call 11;refine(HF.out _ Yo).mono ?_;rintro e w7 ⟨rfl,hu7⟩;refine Hid.out ?_)
    have hI7:=Rr HB5.out hu7;have hu8:Up w w7:=Up.step hu7 hu6;have hb8:w.heap.size<=w7.heap.size:=hu8.size;have HB7:=Lib.hid hI7;clear hI7 hu7 e0 e1 e2 e3 e4 e5 e6 e7 e8 e9 e10 e11 e12;refine Lib.hid ?_
    go_wp2_with (go_at_call 57;refine(M8 w.heap.size w.heap.size _ _ _ HB7.out (by rw[Lib.byteCells_length];simp only[ByteArray.size_append];have:=HPR.out;have e1:(⟨#[10]⟩:ByteArray).size=1:=rfl;omega) hb8).mono ?_;rintro e W1 ⟨rfl,hI1,qZ⟩)
    go_roundw
    case rel=>
     refine⟨k+1,Yn,by simp,?_,?_,Below.trans hu8 qZ⟩
     ·rw[HTK.out,List.all_append,HL.out]
      simp only[List.all_cons,List.all_nil,Bool.and_true,Bool.true_and];exact HJ.out
     ·rw[HTK.out,List.flatMap_append,Lib.byteCells_append]
      have e:([a]:List ba).flatMap ki=tt.data.toList++[10]:=by rw[XT,HLN.out];simp
      rw[e];have e2:Lib.strCells (tt++⟨#[10]⟩)=Lib.byteCells (tt.data.toList++[10]):=by
       have:tt++⟨#[10]⟩=cE (tt.data.toList++[10]):=by
        conv=>lhs;rw[<-sP tt,show(⟨#[10]⟩:ByteArray)=cE [10]from rfl]
        rw[gG]
       rw[this,Lib.strCells_eq];rfl
      rw[<-e2];exact Or.inr hI1
    case measure=>simp[intOf];omega
  ·have hkl:k=l.length:=Yn
   subst hkl;have tr:=HL.out;have hI:=HB.out;rw[List.take_length]at tr hI
   go_wp2_with (go_at_call 58;refine(Tryz.Builder_String_any w.heap.size w.heap.size _ _ hI hws).mono ?_;rintro e W1 ⟨rfl,qZ⟩)
   go_ret
   exact⟨by rw[<-HR.out,tr];rfl,Below.trans hu qZ⟩
theorem AK(A:Option Addr)(c:Nat)(w:World):
 Calls prog 17 #[.slice A 0 c] w λe w'=>e=.returned (.string (cE []))/\Up w w':=by
 go_enter func17,ntmps17
 go_wp2
 go_loopw [10] (λii wr=>ii=Y1 Y2 0/\Lib.IsBuilder 108 5 w.heap.size w.heap.size (Lib.byteCells []) wr/\Up w wr) (λii _=>0)
 case atStart=>
  exact⟨rfl,Lib.fresh_isBuilder 108 5 w,by(repeat(first|exact Up.rfl' _|(refine Up.al _ ?_) |(refine Up.dr _ ?_) |(refine Up.rR ?_) |(refine Up.sc ?_ Yt _) |(refine Up.step Yz ?_)))⟩
 case round=>
  obtain⟨rfl,hI,hu⟩:=hrel;have hws:=hu.size
  go_wp2_with (go_at_call 58;refine(Tryz.Builder_String_any w.heap.size w.heap.size _ _ hI hws).mono ?_;rintro e W1 ⟨rfl,qZ⟩)
  go_ret
  exact⟨rfl,Below.trans hu qZ⟩
theorem u5(l:List ba){r:ByteArray}(H:eM l=YW r):fa prog 17 [.sl (l.map cX)] [] (vs r) []:=by
 unfold eM at H
 split at H
 case isFalse=>cases H
 rename_i hok;obtain⟨hl,hok⟩:=hok;obtain rfl:=VX H;refine sZ (λw E=>.c (.v _ rfl)) λS β w vs uV ht hvl ha=>?_
 obtain⟨x,hx,hr⟩:=ha 0 _ rfl;obtain rfl:=ar1 hvl hx;have hr:=hr.uL;generalize hq:PV.sl (l.map cX)=q at hr
 cases hr with
 |v x h=>cases hq
 |ud=>cases hq
 |un=>cases hq
 |rp=>cases hq
 |fn=>cases hq
 |nil A c=>
  have h0:l=[]:=by simpa using hq
  subst h0;exact AK A c w
 |sl es b off k c u hS hk hn hm xh hc h1 hr4=>
  obtain rfl:l.map cX=es:=by simpa using hq
  by_cases h0:l=[]
  ·subst h0
   exact AK _ c w
  ·obtain⟨a,hx⟩:∃a,l[0]?=YW a:=⟨l[0]'(List.length_pos_iff.2 h0),VV _⟩
   obtain rfl:13=k:=xh 0 (cX a) (by rw[Wk,hx];rfl)
   rw[List.length_map]at hn⊢
   exact LO l hl hok w S uV ht b off c u hS hc hr4 hn hm
instance (l:List ba):CT prog (eM l):=⟨17,[.sl (l.map cX)],[],λr=>vs r,λr=>[],u5 l⟩
end Go.Proofs.YtdilaemengjipaaGreatDoor
