/- A part of the proof of this claim's last theorem. No condition. -/
import Derived.Test.YtbjbellffaenaaaGreatDoorCT10
import Derived.Test.YtbjbellffaenaaaGreatDoorCT9
import Derived.Sort.Grow
import Derived.OpenShut
import Derived.Lib.SplitLaws
import Derived.Laws.ResultCell
import Derived.Shelf.Strings.Repeat
set_option linter.all false
set_option maxRecDepth 10000
namespace Go.Proofs
open Go.Shelf Go.RowKit
def Tryz.lays105_ren : Go.Shelf.Ren := ⟨fun | 105 => 300 | 212 => 348 | 99 => 349 | 165 => 350 | 166 => 60 | 170 => 351 | 169 => 62 | 263 => 381 | 264 => 382 | 206 => 383 | 240 => 125 | 241 => 384 | 276 => 192 | 277 => 395 | n => n, fun | 9 => 9 | 3 => 3 | 4 => 4 | 20 => 20 | 0 => 0 | 46 => 201 | 109 => 351 | 5 => 5 | 72 => 114 | 76 => 117 | 51 => 282 | 146 => 339 | 53 => 284 | 148 => 379 | 70 => 112 | 37 => 22 | 75 => 116 | 127 => 191 | 164 => 234 | 80 => 120 | n => n, fun | n => n⟩
theorem Tryz.lays105 : Go.Proofs.Lays.n105 Tryz.prog Tryz.lays105_ren := {
  mixed := by kernel_rfl
  f99 := Tryz.func349.trans (congrArg some (by kernel_rfl))
  f105 := Tryz.func300.trans (congrArg some (by kernel_rfl))
  f165 := Tryz.func350.trans (congrArg some (by kernel_rfl))
  f166 := Tryz.func60.trans (congrArg some (by kernel_rfl))
  f169 := Tryz.func62.trans (congrArg some (by kernel_rfl))
  f170 := Tryz.func351.trans (congrArg some (by kernel_rfl))
  f206 := Tryz.func383.trans (congrArg some (by kernel_rfl))
  f212 := Tryz.func348.trans (congrArg some (by kernel_rfl))
  f240 := Tryz.func125.trans (congrArg some (by kernel_rfl))
  f241 := Tryz.func384.trans (congrArg some (by kernel_rfl))
  f263 := Tryz.func381.trans (congrArg some (by kernel_rfl))
  f264 := Tryz.func382.trans (congrArg some (by kernel_rfl))
  f276 := Tryz.func192.trans (congrArg some (by kernel_rfl))
  f277 := Tryz.func395.trans (congrArg some (by kernel_rfl))
  t0 := Tryz.underlying0
  a0 := Tryz.isAgg0
  z0 := Tryz.sizeOf0
  v0 := Tryz.zeroValue0
  t3 := Tryz.underlying3
  a3 := Tryz.isAgg3
  z3 := Tryz.sizeOf3
  v3 := Tryz.zeroValue3
  t4 := Tryz.underlying4
  a4 := Tryz.isAgg4
  z4 := Tryz.sizeOf4
  v4 := Tryz.zeroValue4
  t5 := Tryz.underlying5
  a5 := Tryz.isAgg5
  z5 := Tryz.sizeOf5
  v5 := Tryz.zeroValue5
  t9 := Tryz.underlying9
  a9 := Tryz.isAgg9
  z9 := Tryz.sizeOf9
  v9 := Tryz.zeroValue9
  t20 := Tryz.underlying20
  a20 := Tryz.isAgg20
  z20 := Tryz.sizeOf20
  v20 := Tryz.zeroValue20
  t37 := Tryz.underlying22
  a37 := Tryz.isAgg22
  z37 := Tryz.sizeOf22
  v37 := Tryz.zeroValue22
  t46 := Tryz.underlying201
  a46 := Tryz.isAgg201
  z46 := Tryz.sizeOf201
  v46 := Tryz.zeroValue201
  t51 := Tryz.underlying282
  a51 := Tryz.isAgg282
  z51 := Tryz.sizeOf282
  v51 := Tryz.zeroValue282
  t53 := Tryz.underlying284
  a53 := Tryz.isAgg284
  z53 := Tryz.sizeOf284
  v53 := Tryz.zeroValue284
  t70 := Tryz.underlying112
  a70 := Tryz.isAgg112
  z70 := Tryz.sizeOf112
  v70 := Tryz.zeroValue112
  t72 := Tryz.underlying114
  a72 := Tryz.isAgg114
  z72 := Tryz.sizeOf114
  v72 := Tryz.zeroValue114
  t75 := Tryz.underlying116
  a75 := Tryz.isAgg116
  z75 := Tryz.sizeOf116
  v75 := Tryz.zeroValue116
  t76 := Tryz.underlying117
  a76 := Tryz.isAgg117
  z76 := Tryz.sizeOf117
  v76 := Tryz.zeroValue117
  t109 := Tryz.underlying351
  a109 := Tryz.isAgg351
  z109 := Tryz.sizeOf351
  v109 := Tryz.zeroValue351
  t127 := Tryz.underlying191
  a127 := Tryz.isAgg191
  z127 := Tryz.sizeOf191
  v127 := Tryz.zeroValue191
  t146 := Tryz.underlying339
  a146 := Tryz.isAgg339
  z146 := Tryz.sizeOf339
  v146 := Tryz.zeroValue339
  t148 := Tryz.underlying379
  a148 := Tryz.isAgg379
  z148 := Tryz.sizeOf379
  v148 := Tryz.zeroValue379
  t164 := Tryz.underlying234
  a164 := Tryz.isAgg234
  z164 := Tryz.sizeOf234
  v164 := Tryz.zeroValue234 }
theorem Tryz.Builder_Extra_105 : Builder.Extra Tryz.prog Tryz.lays105_ren := {
  sizeBuilder := by kernel_rfl
  liesBuilder := by kernel_rfl
  t5 := Tryz.underlying5
  a5 := Tryz.isAgg5
  z5 := Tryz.sizeOf5
  v5 := Tryz.zeroValue5
  infoByte := by kernel_rfl
  cellsByte := by kernel_rfl
  sizeByte := by kernel_rfl
  neB5 := by decide }
theorem Tryz.strings_Repeat (s : ByteArray) (c : Nat) (w : World) (hc : c ≤ 9223372036854775807) (hlen : s.size * c ≤ 140737488355328) :
    Calls Tryz.prog 300 #[.string s, .int .i64 c] w fun e w' => e = .returned (.string ⟨(Lib.repeatL s.data.toList c).toArray⟩) ∧ Below w.heap.size w w' := Any.strings_Repeat Tryz.lays105 Tryz.Builder_Extra_105 s c w hc hlen
end Go.Proofs
open Go.Value renaming int->Zh
open Go.IntKind renaming i64->Zi
open Go renaming undef->Zj
open Option renaming some->D,none->Zd
open Bool renaming true->Ze,false->Zf
open Decidable renaming decide->Z
open List renaming length->R
open Option renaming bind->J
open _root_ renaming Array->Zp,List->F,Nat->O,Option->C,cond->G
open Go.Proofs.YtbjbellffaenaaaGreatDoor renaming TabF->Zo,YA->M,cf->V,de->K,ee->W,vi->Y
open Go.Proofs.Tryz
set_option maxHeartbeats 40000000
open List renaming replicate->V9,cons_append->Xa,getElem?_eq_getElem->VS,take_add_one->Xz,take_length->XF,length_append->V5,getElem?_eq_some_iff->VT,extract_eq_take_drop->Yk,mem_singleton->Wh,mem_append->We,length_map->Wi
open _root_.ByteArray renaming size->Yb,ext->W4,data_extract->Yc
open Nat renaming le_refl->VW,lt_of_lt_of_le->Wn,lt_or_ge->Wu,ne_of_lt->XI
open Option.some renaming inj->VV
open Option renaming bind_some->VR,getD_some->W9
open _root_.Array renaming toList_inj->X1,getElem?_eq_none->XE,getElem?_push_size->Yl,getElem?_eq_some_iff->V6
namespace Go.Proofs.YtbjbellffaenaaaGreatDoor
open Go.RowKit
variable {r:ByteArray}
def cx(l:F bf):C (F bf):=
 J (V (bn (R (([]:F bf):F bf)+R (l:F bf)) 32)) λ_=>
 D ((([]:F bf):F bf)++l)
instance (l:F bf):CT prog (cx l):=⟨75,[.sl (l.map bV)],[],λr=>.ms 0,λr=>[D ⟨.of 82,4,r.map bV⟩],cw (cx.eq_1 ..) func75 ntmps75 results75⟩
def qg(x:bf):C Bool:=
 J (bh x.order 1 9999) λy1=>
 G y1
 (J (bh x.kind 1 3) λy2=>
 G y2
 (J (bh x.bE 1 100000) λy3=>
 G y3
 (J (bh x.aQ 0 100000) λy4=>
 D y4)
 (D Zf))
 (D Zf))
 (D Zf)
instance (x:bf):CT prog (qg x):=⟨202,[.ag (bV x)],[],λr=>vb r,λr=>[],cw (qg.eq_1 ..) func202 ntmps202 results202⟩
def pD(l:F bf)(order:Int)(kind:Int)(s0:Int×Int):C ((Int×Int)⊕Int):=
 G (Z (s0.2<(R l:Int)))
 ((jn 5 4 (
 J (az l s0.2) λy1=>
 G (Z (y1.order=order))
 (J (az l s0.2) λy2=>
 G (Z (y2.kind=kind))
 (D (.inl (aJ (s0.1+1))))
 (D (.inl s0.1)))
 (D (.inl s0.1)):C (Int⊕Empty)) (λz3=>(.sl (l.map bV)::Y order::Y kind::(U 4 (Y z3::Y s0.2::(U 25 []))))) (λz3=>[])).bind (bj (λz3=>
 D (.inl (z3,(aJ (s0.2+1))))) (λr=>r.elim)))
 (D (.inr s0.1))
instance (l:F bf)(order:Int)(kind:Int):bm (pD l order kind):=⟨λs0=>(.sl (l.map bV)::Y order::Y kind::(U 4 (Y s0.1::Y s0.2::(U 25 [])))),λs0=>[]⟩
def mZ(l:F bf)(order:Int)(kind:Int):C Int:=
 (aB (pD l order kind) NN (0,0)).bind (λo0=>
 D o0)
instance (l:F bf)(order:Int)(kind:Int):CT prog (mZ l order kind):=⟨203,[.sl (l.map bV),Y order,Y kind],[],λr=>Y r,λr=>[],cw (mZ.eq_1 ..) func203 ntmps203 results203⟩
def iT(p:aP):C aP:=
 J (eK p.bJ) λy1=>
 D (⟨p.label,p.ar,p.ah,y1,p.value⟩:aP)
instance (p:aP):CT prog (iT p):=⟨76,[.ag (cd p)],[],λr=>.ag [Y r.label.ax,Y r.label.bU,vs r.label.aZ,vs r.ar,Y r.ah,.sl (r.bJ.map aW),Y r.value],λr=>[],cw (iT.eq_1 ..) func76 ntmps76 results76⟩
def mK(a:F au)(b:F au)(s0:Int):C (Int⊕(Unit⊕Bool)):=
 G (Z (s0<(R a:Int)))
 (J (az a s0) λy1=>
 J (az b s0) λy2=>
 G (!decide (y1=y2))
 (D (.inr (.inr Zf)))
 (D (.inl (aJ (s0+1)))))
 (D (.inr (.inl ())))
instance (a:F au)(b:F au):bm (mK a b):=⟨λs0=>(.sl (a.map bg)::.sl (b.map bg)::(U 10 (Y (R a:Int)::Y s0::(U 12 [])))),λs0=>[]⟩
def gQ(a:F au)(b:F au):C Bool:=
 G (!decide ((R a:Int)=(R b:Int)))
 (D Zf)
 ((aB (mK a b) NN 0).bind (bj (λo0=>
 D Ze) (λr=>D r)))
instance (a:F au)(b:F au):CT prog (gQ a b):=⟨132,[.sl (a.map bg),.sl (b.map bg)],[],λr=>vb r,λr=>[],λH=>by replace H:=H0 H;unfold gQ at H;exact je func132 rfl ntmps132 results132 λQ hQ Kf=>LA⟩
def nC(a:ay)(b:ay):C Bool:=
 G (Z (a.ar=b.ar))
 (G (Z (a.aZ=b.aZ))
 (G (Z (a.ax=b.ax))
 (G (Z (a.ah=b.ah))
 (G (Z (a.aQ=b.aQ))
 (G (Z (a.fc=b.fc))
 (J (gQ a.aE b.aE) λy1=>
 G y1
 (G (Z (a.aH=b.aH))
 (G (Z (a.state=b.state))
 (G (Z (a.place=b.place))
 (D (Z (a.bK=b.bK)))
 (D Zf))
 (D Zf))
 (D Zf))
 (D Zf))
 (D Zf))
 (D Zf))
 (D Zf))
 (D Zf))
 (D Zf))
 (D Zf)
instance (a:ay)(b:ay):CT prog (nC a b):=⟨129,[.ag (bx a),.ag (bx b)],[],λr=>vb r,λr=>[],cw (nC.eq_1 ..) func129 ntmps129 results129⟩
def nX(a:F bP)(b:F bP)(s0:Int):C (Int⊕(Unit⊕Bool)):=
 G (Z (s0<(R a:Int)))
 (J (az a s0) λy1=>
 J (az b s0) λy2=>
 G (!decide (y1=y2))
 (D (.inr (.inr Zf)))
 (D (.inl (aJ (s0+1)))))
 (D (.inr (.inl ())))
instance (a:F bP)(b:F bP):bm (nX a b):=⟨λs0=>(.sl (a.map cY)::.sl (b.map cY)::(U 10 (Y (R a:Int)::Y s0::(U 12 [])))),λs0=>[]⟩
def jU(a:F bP)(b:F bP):C Bool:=
 G (!decide ((R a:Int)=(R b:Int)))
 (D Zf)
 ((aB (nX a b) NN 0).bind (bj (λo0=>
 D Ze) (λr=>D r)))
instance (a:F bP)(b:F bP):CT prog (jU a b):=⟨130,[.sl (a.map cY),.sl (b.map cY)],[],λr=>vb r,λr=>[],λH=>by replace H:=H0 H;unfold jU at H;exact je func130 rfl ntmps130 results130 λQ hQ Kf=>LA⟩
theorem Tu(w:World)(k:O)(os:Zp Obj):Up w (Sort.grow (w.drewN k) os):=
 ⟨rfl,rfl,rfl,by simp,λb hb=>Sort.heap_grow_old _ _ hb⟩
theorem yv(n:Int)(h0:-9223372036854775808<=n)(h1:n<=9223372036854775807)(w:World)(ht:Zo w):
 Calls prog 127 #[Zh Zi n] w λe w'=>e=.returned (.string (K (Lib.itoa n)))/\Up w w':=by
 have hI:=Tryz.strconv_Itoa n h0 h1 w ht.JC
 go_enter func127,ntmps127
 go_wp2_with (go_at_call 191;refine hI.mono ?_;rintro e w' ⟨rfl,k,os,rfl⟩)
 go_ret
 exact⟨rfl,Tu _ _ _⟩
theorem Zb6(i:O):Lib.itoa (i:Int)=Lib.decDigits i:=by
 unfold Lib.itoa;rw[if_neg M];rfl
theorem Eu(i:O)(hi:i<100)(w:World):
 Calls prog 127 #[Zh Zi i] w λe w'=>e=.returned (.string (K (Lib.itoa i)))/\w'=w:=by
 have hI:=Tryz.strconv_Itoa_small i hi w;rw[Zb6]
 go_enter func127,ntmps127
 go_wp2_with (go_at_call 191;refine hI.mono ?_;rintro e w' ⟨rfl,rfl⟩)
 go_ret
 exact⟨rfl,rfl⟩
def sq(n:Int)(d:O):F UInt8:=V9 (d-R (Lib.itoa n)) 48++Lib.itoa n
theorem Zc0(c:O):Lib.repeatL [48] c=V9 c (48:UInt8):=by
 induction c with
 |zero=>rfl
 |succ c ih=>
  rw[Lib.repeatL,ih,List.replicate_succ];rfl
theorem Og(n:Int)(d:O)(h0:-9223372036854775808<=n)(h1:n<=9223372036854775807)(hd:d<=20)(w:World)(ht:Zo w):
 Calls prog 241 #[Zh Zi n,Zh Zi d] w λe w'=>e=.returned (.string (K (sq n d)))/\Up w w':=by
 have hF:=yv n h0 h1 w ht;have hlen:=Lib.itoa_length_le n h0 h1;have xh:(K (Lib.itoa n)).size=R (Lib.itoa n):=bM _;have hR:=λw1=>Tryz.strings_Repeat ⟨#[48]⟩ (d-R (Lib.itoa n)) w1 M (by show 1*_<=_;omega)
 have hsR:(⟨(Lib.repeatL [48] (d-R (Lib.itoa n))).toArray⟩:ByteArray).size=d-R (Lib.itoa n):=by simp[Yb,Lib.repeatL_length]
 rw[show((d-R (Lib.itoa n):O):Int)=max 0 ((d:Int)-(R (Lib.itoa n):Int))by omega]at hR
 go_enter func241,ntmps241
 go_wp2_with (first
  |(go_at_call 127;refine hF.mono ?_;rintro e w1 ⟨rfl,vJ⟩)
  |(go_at_call 300;refine(hR _).mono ?_;rintro e w2 ⟨rfl,Ab⟩))
 all_goals(try(exfalso;omega))
 go_ret
 refine⟨?_,Up.step Ab vJ⟩;show Ending.returned (.string (⟨(Lib.repeatL [48] (d-R (Lib.itoa n))).toArray⟩++K (Lib.itoa n)))=_
 congr 2
 apply W4;rw[ByteArray.data_append];simp[K,sq,Zc0]
def DV(c:UInt8):C (F UInt8):=if 48<=c.toNat/\c.toNat<=57 then D [c]else if 65<=c.toNat/\c.toNat<=90 then D (Lib.itoa ((c.toNat-55:O):Int))else Zd
def pJ:F UInt8->C (F UInt8)
 | []=>D []
 |c::cs=>match DV c,pJ cs with
  |some a,D b=>D (a++b)
  |_,_=>Zd
theorem IF(l:F UInt8)(c:UInt8):pJ (l++[c])=match pJ l,DV c with
 |some a,D b=>D (a++b)
 |_,_=>none:=by
 induction l with
 |nil=>
  show pJ [c]=_;simp only[pJ]
  cases DV c<;>simp
 |cons x l ih=>
  simp only[Xa,pJ,ih]
  cases DV x<;>cases pJ l<;>cases DV c<;>simp
theorem IE{l:F UInt8}{i:O}{c:UInt8}(h:l[i]?=D c)(hc:DV c=Zd):pJ l=none:=by
 induction l generalizing i with
 |nil=>simp at h
 |cons x l ih=>
  cases i with
  |zero=>simp at h;subst h;simp[pJ,hc]
  |succ i=>
   have:=ih (i:=i) (by simpa using h)
   simp only[pJ,this]
   cases DV x<;>rfl
theorem Tr(l:F UInt8)(k:O)(h:k<(K l).size):l[k]?=D ((K l)[k]'(h)):=by
 have h':k<R l:=by rw[bM]at h;exact h
 rw[VS h'];rfl
theorem Gs(i:O)(h:i<100):R (Lib.itoa (i:Int))<=21:=
 Lib.itoa_length_le (i:Int) M M
theorem J9{c:UInt8}{a:F UInt8}(h:DV c=D a):R a<=21:=by
 unfold DV at h
 split at h
 ·cases h;simp
 ·split at h
  ·cases h;exact Gs _ (by have:=c.toNat_lt;omega)
  ·cases h
theorem MJ(l:F UInt8)(hl:R l<=1000000000)(w:World):
 Calls prog 301 #[.string (K l)] w λe w'=>e=.returned (.tuple #[.string (K ((pJ l).getD [])),.bool ((pJ l).isSome)])/\Up w w':=by
 have xh:(K l).size=R l:=bM _
 go_enter func301,ntmps301
 go_wp2
 go_loopw [5] (λii wr=>∃(k:O) (acc:F UInt8),k<=R l/\ii=Zh Zi k/\pJ (l.take k)=D acc/\(R acc)<=21*k/\Lib.IsBuilder 114 5 w.heap.size w.heap.size (Lib.byteCells acc) wr/\Up w wr) (λii _=>R l-(intOf ii).toNat)
 case atStart=>
  exact⟨0,[],M,rfl,by simp[pJ],by simp,Lib.fresh_isBuilder 114 5 w,by(repeat(first|exact Up.rfl' _|(refine Up.al _ ?_) |(refine Up.dr _ ?_) |(refine Up.sZ ?_) |(refine Up.sc ?_ YH _) |(refine Up.step YN ?_)))⟩
 case round=>
  obtain⟨k,acc,hk,rfl,C3,hal,hI,hu⟩:=hrel;have hws:=hu.size
  by_cases bD:k<R l
  ·have Kj:k<(K l).size:=M
   have hg:=Tr l k Kj;have Nl:pJ (l.take (k+1))=match D acc,DV ((K l)[k]'(Kj))with
    |some a,D b=>D (a++b)
    |_,_=>none:=by
    rw[Xz,hg,show(D (K l)[k]).toList=[(K l)[k]]from rfl,IF,C3]<;>rfl
   have vD:=((K l)[k]'(Kj)).toNat_lt;generalize hc:(K l)[k]'(Kj)=c at *
   by_cases h1:48<=c.toNat/\c.toNat<=57
   ·obtain⟨h1a,h1b⟩:=h1
    have hd:DV c=D [c]:=by unfold DV;rw[if_pos ⟨h1a,h1b⟩]
    rw[hd]at Nl
    go_wp2_with (go_at_call 352;refine(ZaG w.heap.size w.heap.size _ _ _ hI (by rw[Lib.byteCells_length];omega) hws).mono ?_;rintro e W1 ⟨rfl,hI1,qV⟩)
    go_roundw
    case rel=>
     refine⟨k+1,acc++[c],M,by simp,Nl,by simp;omega,?_,Below.trans hu qV⟩
     rw[Lib.byteCells_append];exact Or.inr hI1
    case measure=>simp[intOf];omega
   ·by_cases h2:65<=c.toNat/\c.toNat<=90
    ·obtain⟨h2a,h2b⟩:=h2
     have hd:DV c=D (Lib.itoa ((c.toNat-55:O):Int)):=by unfold DV;rw[if_neg h1,if_pos ⟨h2a,h2b⟩]
     have hdl:=J9 hd;rw[hd]at Nl
     have hF:=Eu (c.toNat-55) M;rw[show((c.toNat-55:O):Int)=((c.toNat:Int)-65)+10 by omega]at hF Nl hdl
     go_wp2_with (first
      |(go_at_call 127;refine(hF _).mono ?_;rintro e w1 ⟨rfl,rfl⟩)
      |(go_at_call 60;refine(RZ w.heap.size w.heap.size _ _ _ hI (by rw[Lib.byteCells_length,bM];omega) hws).mono ?_;rintro e W1 ⟨rfl,hI1,qV⟩))
     go_roundw
     case rel=>
      refine⟨k+1,acc++_,M,by simp,Nl,by simp;omega,?_,Below.trans hu qV⟩
      rw[Lib.byteCells_append];rw[Lib.strCells_eq]at hI1
      exact Or.inr hI1
     case measure=>simp[intOf];omega
    ·have hd:DV c=none:=by unfold DV;rw[if_neg h1,if_neg h2]
     have hn:=IE hg (by rw[hd])
     go_wp2
     all_goals(go_ret2;first|exact⟨rfl,hu⟩ |(rw[hn];exact⟨rfl,hu⟩))
  ·have hkl:k=R l:=M
   subst hkl;rw[XF]at C3
   go_wp2_with (go_at_call 62;refine(Tryz.Builder_String_any w.heap.size w.heap.size acc _ hI hws).mono ?_;rintro e W1 ⟨rfl,qV⟩)
   go_ret2
   rw[C3];exact⟨rfl,Below.trans hu qV⟩
theorem xn{P:Program}{f:FuncId}{args:F PV}{r:PV}{val:Value}(h1:∀(w:World) (E:Env),eC w E r val)
 (h:∀(S:O->Prop) (β:O->C sx) (w:World) (vs:Zp Value),(∀b,S b->b<w.heap.size)->Zo w->vs.size=R args->(∀(i:O) (p:PV),args[i]?=D p->∃x,vs[i]?=D x/\eC w (E1 S β 0) p x)->
  Calls P f vs w λe w'=>e=.returned val/\Up w w'):eh P f args [] r []:=by
 intro S β w vs ω hk hl ha;refine(h S β w vs hk.sz hk.JC.here hl λi p hp=>by obtain⟨x,h1,h2⟩:=ha i p hp;exact⟨x,h1,h2.Zlc⟩).mono ?_
 rintro e w' ⟨rfl,hu⟩;refine⟨val,E1 S β 0,rfl,⟨⟨hu.os,hu.tape,hu.output,hu.size,λb hb _=>hu.block b hb⟩,λb hb=>Wn (hk.sz b hb) hu.size,λl B hB hz=>?_,hk.inj,hk.used,hk.bu,λl mb hm=>YD,hk.dom,hk.JC,λ_ _ h=>h.elim⟩,λb h=>h,λb h=>.inl h,⟨λl B _ h=>h,λ_ _ h=>h.elim⟩,h1 _ _⟩
 obtain⟨a,b,c⟩:=hk.own l B hB hz;exact⟨a,Wn b hu.size,c⟩
theorem rv1{w:World}{E:Env}{a x:Value}(h:eC w E (.v a) x):x=a:=h.jw.1
theorem ar1{vs:Zp Value}{x0:Value}(h:vs.size=1)(h0:vs[0]?=D x0):vs=#[x0]:=by
 grind
theorem ar2{vs:Zp Value}{x0 x1:Value}(h:vs.size=2)(h0:vs[0]?=D x0)(h1:vs[1]?=D x1):vs=#[x0,x1]:=by
 grind
def sF(n:Int):Prop:=-9223372036854775808<=n/\n<=9223372036854775807
instance (n:Int):Decidable (sF n):=by unfold sF;infer_instance
def cR(n:Int):C ByteArray:=if sF n then D (K (Lib.itoa n))else Zd
theorem B7(n:Int)(H:cR n=D r):eh prog 127 [Y n] [] (Go.Proofs.YtbjbellffaenaaaGreatDoor.vs r) []:=by
 unfold cR at H
 split at H
 case isFalse=>cases H
 rename_i hn;obtain rfl:=VV H;refine xn (λw E=>.c (.v _ rfl)) λS β w vs xh ht hl ha=>?_
 obtain⟨x,hx,hr⟩:=ha 0 _ rfl;obtain rfl:=ar1 hl hx;obtain rfl:=rv1 hr;exact yv n hn.1 hn.2 w ht
instance (n:Int):CT prog (cR n):=⟨127,[Y n],[],λr=>vs r,λr=>[],B7 n⟩
def cg(n:Int):C ByteArray:=if sF n then D (K (Lib.itoa n))else Zd
def nW(n d:Int):C ByteArray:=if sF n/\0<=d/\d<=20 then D (K (sq n d.toNat))else Zd
theorem GG(n d:Int)(H:nW n d=D r):eh prog 241 [Y n,Y d] [] (Go.Proofs.YtbjbellffaenaaaGreatDoor.vs r) []:=by
 unfold nW at H
 split at H
 case isFalse=>cases H
 rename_i hn;obtain rfl:=VV H;refine xn (λw E=>.c (.v _ rfl)) λS β w vs xh ht hl ha=>?_
 obtain⟨x,hx,hr⟩:=ha 0 _ rfl;obtain⟨x1,Qm,hr1⟩:=ha 1 _ rfl;obtain rfl:=ar2 hl hx Qm;obtain rfl:=rv1 hr;obtain rfl:=rv1 hr1;have:=Og n d.toNat hn.1.1 hn.1.2 M w ht
 grind
instance (n d:Int):CT prog (nW n d):=⟨241,[Y n,Y d],[],λr=>vs r,λr=>[],GG n d⟩
def qd(s:ByteArray):C (ByteArray×Bool):=if s.size<=1000000000 then D (K ((pJ s.data.toList).getD []),(pJ s.data.toList).isSome)else Zd
theorem GF(s:ByteArray){r:ByteArray×Bool}(H:qd s=D r):eh prog 301 [Go.Proofs.YtbjbellffaenaaaGreatDoor.vs s] [] (.tu [Go.Proofs.YtbjbellffaenaaaGreatDoor.vs r.1,vb r.2]) []:=by
 unfold qd at H
 split at H
 case isFalse=>cases H
 rename_i hn;obtain rfl:=VV H;refine xn (val:=.tuple #[.string (K ((pJ s.data.toList).getD [])),.bool ((pJ s.data.toList).isSome)]) (λw E=>.tu _ _ rfl λj p x hp hx=>?_) λS β w vs xh ht hl ha=>?_
 ·match j,hp,hx with
  |0,hp,hx=>simp at hp hx;subst hp hx;exact .c (.v _ rfl)
  |1,hp,hx=>simp at hp hx;subst hp hx;exact .c (.v _ rfl)
  |j+2,hp,hx=>grind
 ·obtain⟨x,hx,hr⟩:=ha 0 _ rfl
  obtain rfl:=ar1 hl hx;obtain rfl:=rv1 hr;have:=MJ s.data.toList YG w
  rwa[show K s.data.toList=s from W4 YT]at this
instance (s:ByteArray):CT prog (qd s):=⟨301,[vs s],[],λr=>.tu [vs r.1,vb r.2],λr=>[],GF s⟩
def mq(digits:Int)(s0:ByteArray):C (ByteArray⊕ByteArray):=
 G (Z ((s0.size:Int)<digits))
 (J (V (W (⟨#[48]⟩) s0)) λ_=>
 D (.inl (⟨#[48]⟩++s0)))
 (D (.inr s0))
instance (digits:Int):bm (mq digits):=⟨λs0=>(.un::Y digits::(U 3 (vs s0::(U 9 [])))),λs0=>[]⟩
def sg(n:Int)(digits:Int):C ByteArray:=
 J (cg n) λy1=>
 (aB (mq digits) NN y1).bind (λo0=>
 D o0)
def oP(s:ByteArray)(s0:ByteArray×Int):C ((ByteArray×Int)⊕(ByteArray⊕(ByteArray×Bool))):=
 G (Z (s0.2<(s.size:Int)))
 ((jn 5 4 (
 J (xy s s0.2) λy1=>
 J (bh (IntKind.i64.wrap y1) 48 57) λy2=>
 G y2
 (J (V (iq s0.2 (aJ (s0.2+1)) s.size)) λ_=>
 J (V (W s0.1 (RG s s0.2 (aJ (s0.2+1))))) λ_=>
 D (.inl (s0.1++(RG s s0.2 (aJ (s0.2+1))))))
 (J (bh (IntKind.i64.wrap y1) 65 90) λy3=>
 G y3
 (J (cg (aJ ((aJ ((IntKind.i64.wrap y1)-65))+10))) λy4=>
 J (V (W s0.1 y4)) λ_=>
 D (.inl (s0.1++y4)))
 (D (.inr (⟨#[]⟩,Zf)))):C (ByteArray⊕(ByteArray×Bool))) (λz5=>(vs s::(U 3 (vs z5::Y s0.2::(U 31 []))))) (λz5=>[])).bind (bj (λz5=>
 D (.inl (z5,(aJ (s0.2+1))))) (λr=>D (.inr (.inr r)))))
 (D (.inr (.inl s0.1)))
instance (s:ByteArray):bm (oP s):=⟨λs0=>(vs s::(U 3 (vs s0.1::Y s0.2::(U 31 [])))),λs0=>[]⟩
def wq(s:ByteArray):C (ByteArray×Bool):=
 (aB (oP s) NN (⟨#[]⟩,0)).bind (bj (λo0=>
 D (o0,Ze)) (λr=>D r))
def fo(s:ByteArray)(s0:Int×Int):C ((Int×Int)⊕(Int⊕Int)):=
 G (Z (s0.2<(s.size:Int)))
 (J (xy s s0.2) λy1=>
 J (bh (IntKind.i64.wrap y1) 48 57) λy2=>
 G (!y2)
 (D (.inr (.inr (-1))))
 (J (xy s s0.2) λy3=>
 D (.inl ((Int.tmod (aJ ((aJ (10*s0.1))+(IntKind.i64.wrap (IntKind.u8.wrap (y3-48))))) 97),(aJ (s0.2+1))))))
 (D (.inr (.inl s0.1)))
instance (s:ByteArray):bm (fo s):=⟨λs0=>(vs s::.un::.un::Y s0.1::Y s0.2::(U 24 [])),λs0=>[]⟩
def pB(s:ByteArray):C Int:=
 (aB (fo s) NN (0,0)).bind (bj (λo0=>
 G (Z (s=⟨#[]⟩))
 (D (-1))
 (D o0)) (λr=>D r))
def r7(s:ByteArray)(s0:Int×Int):C ((Int×Int)⊕(Int⊕Int)):=
 G (Z (s0.2<(s.size:Int)))
 (J (xy s s0.2) λy1=>
 G (Z (y1<48))
 (D (.inr (.inr (-1))))
 (J (xy s s0.2) λy2=>
 G (Z (57<y2))
 (D (.inr (.inr (-1))))
 (J (xy s s0.2) λy3=>
 D (.inl ((Int.tmod (aJ ((aJ (10*s0.1))+(IntKind.i64.wrap (IntKind.u8.wrap (y3-48))))) 97),(aJ (s0.2+1)))))))
 (D (.inr (.inl s0.1)))
instance (s:ByteArray):bm (r7 s):=⟨λs0=>(vs s::.un::.un::Y s0.1::Y s0.2::(U 28 [])),λs0=>[]⟩
def sR(s:ByteArray):C Int:=
 (aB (r7 s) NN (0,0)).bind (bj (λo0=>
 G (Z (s=⟨#[]⟩))
 (D (-1))
 (D o0)) (λr=>D r))
instance (s:ByteArray):CT prog (sR s):=⟨302,[vs s],[],λr=>Y r,λr=>[],cw (sR.eq_1 ..) func302 ntmps302 results302⟩
end Go.Proofs.YtbjbellffaenaaaGreatDoor
namespace Go.Proofs.YtbjbellffaenaaaGreatDoor
open Go.RowKit Go.Sort
variable {d i:O}{l:F UInt8}{n:Int}
theorem jP(a b:F UInt8):K a++K b=K (a++b):=by
 rfl
theorem Cp{a b:ByteArray}(h:a.size+b.size<=uY):W a b=true:=by
 unfold W;unfold uY at h
 grind
theorem im(h:sF n):R (Lib.itoa n)<=21:=Lib.itoa_length_le n h.1 h.2
theorem Ei(h:sF n)(hd:d<=20):sg n (d:Int)=D (K (sq n d)):=by
 have hl:=im h;unfold sg;have hF:cg n=D (K (Lib.itoa n)):=by unfold cg;simp_all
 rw[hF,VR];have key:∀(k N c:O),k=d-(R (Lib.itoa n)+c)->k<N->aB (mq (d:Int)) N (K (V9 c 48++Lib.itoa n))=D (K (V9 (c+k) 48++Lib.itoa n)):=by
  intro k
  induction k with
  |zero=>
   intro N c hk hN
   cases N with
   |zero=>omega
   |succ N=>
    simp only[aB,mq,bM,V5,List.length_replicate]
    grind
  |succ k ih=>
   intro N c hk hN
   cases N with
   |zero=>omega
   |succ N=>
    have e1:(⟨#[48]⟩:ByteArray)++K (V9 c 48++Lib.itoa n)=K (V9 (c+1) 48++Lib.itoa n):=by
     rfl
    simp only[aB,mq];rw[e1,Cp (by rw[bM];simp[Yb];unfold uY;omega),bM]
    rw[Yi YL];have:=ih N (c+1) M M;rw[show c+1+k=c+(k+1)by omega]at this
    exact this
 have:=key (d-R (Lib.itoa n)) NN 0 M YF;simp only[List.replicate_zero,List.nil_append,Nat.zero_add]at this
 rw[this];rfl
theorem Jb(h:sF n)(hd:d<=20):nW n (d:Int)=D (K (sq n d)):=by
 unfold nW
 grind
theorem Cc(h:sF n)(hd:d<=20):R (sq n d)<=21:=by
 have:=im h;unfold sq
 grind
theorem DL{y:Int}(h:0<=y/\y<=255):IntKind.i64.wrap y=y:=aV ⟨M,M⟩
theorem Zcl:@sR=@pB:=by
 have e:@r7=@fo:=by
  funext s s0
  unfold r7 fo
  cases hd:Z (s0.2<(s.size:Int))
  ·rfl
  simp only[Yw]
  cases hy:xy s s0.2 with
  |none=>rfl
  |some y=>
   have hw:=EV hy;simp only[VR,DL hw,cO]
   grind
 funext s
 unfold sR pB;rw[e]
theorem I3{s:ByteArray}(h:s.size<NN):∃m,pB s=D m:=by
 have ht:∃o,aB (fo s) NN (0,0)=D o:=by
  refine yD (λk s0=>∃i:O,i+k=s.size/\s0.2=(i:Int)) ?_ NN s.size (0,0) ⟨0,M,rfl⟩ h
  rintro k ⟨m,x⟩ ⟨i,hi,hx⟩;simp only at hx
  subst hx;unfold fo
  by_cases bD:i<s.size
  ·obtain⟨y,hy⟩:=CZ bD
   have hw:=EV hy;simp only[hy,VR,DL hw,cO,Yi (show(i:Int)<(s.size:Int)by omega),Yw]
   cases(Z (48<=y)&&Z (y<=57))
   ·simp
   ·refine⟨_,rfl,λs' e=>?_⟩
    cases e
    exact⟨k-1,M,i+1,M,bz bD (by unfold NN at h;omega)⟩
  ·simp only[Yt (show ¬(i:Int)<(s.size:Int)by omega),Yx]
   simp
 obtain⟨o,ho⟩:=ht;unfold pB;rw[ho]
 cases o with
 |inl a=>simp only[VR,bj];cases Z (s=⟨#[]⟩)<;>exact⟨_,rfl⟩
 |inr r=>simp
theorem MZ{c:UInt8}(h:l[i]?=D c):xy (K l) (i:Int)=D (c.toNat:Int):=by
 have bD:=(VT.1 h).1;unfold xy;rw[if_pos ⟨M,by rw[bM];omega⟩]
 unfold CM;have hb:(K l)[i]?=D c:=by
  have hs:i<(K l).size:=by rw[bM];omega
  rw[getElem?_pos (K l) i hs,<-Tr l i hs,h]
 simp_all
theorem ZdC{c:UInt8}(h:l[i]?=D c):RG (K l) (i:Int) ((i+1:O):Int)=K [c]:=by
 unfold RG;apply W4;rw[Yc];simp only[K,Int.toNat_natCast];apply X1.1;rw[Array.toList_extract];simp only[Yk];have bD:=(VT.1 h).1;rw[show i+1-i=1 by omega]
 apply List.ext_getElem?
 grind
theorem DW(hl:R l<=100000):wq (K l)=D (K ((pJ l).getD []),(pJ l).isSome):=by
 have key:∀(k N i:O) (acc:F UInt8),i+k=R l->k<N->pJ (l.take i)=D acc->R acc<=21*i->
  aB (oP (K l)) N (K acc,(i:Int))=D (match pJ l with|some a=>.inl (K a) |none=>.inr (⟨#[]⟩,Zf)):=by
  intro k
  induction k with
  |zero=>
   intro N i acc hi hN ha hal
   cases N with
   |zero=>omega
   |succ N=>
    obtain rfl:i=R l:=M;rw[XF]at ha
    simp only[aB,oP,bM]
    simp_all
  |succ k ih=>
   intro N i acc hi hN ha hal
   cases N with
   |zero=>omega
   |succ N=>
    have bD:i<R l:=M;obtain⟨c,hc⟩:∃c,l[i]?=D c:=⟨_,VS bD⟩;have vD:=c.toNat_lt;have Nl:pJ (l.take (i+1))=match D acc,DV c with
     |some a,D b=>D (a++b)
     |_,_=>none:=by
     rw[Xz,hc,show(D c).toList=[c]from rfl,IF,ha]<;>rfl
    have hw:IntKind.i64.wrap (c.toNat:Int)=(c.toNat:Int):=DL ⟨M,M⟩;have h1:aJ ((i:Int)+1)=((i+1:O):Int):=bz bD M;simp only[aB,oP,jn,bM,MZ hc,hw,cO,h1,ZdC hc,VR];rw[Yi (show(i:Int)<(R l:Int)by omega)]
    by_cases hd1:48<=c.toNat/\c.toNat<=57
    ·have hd:DV c=D [c]:=by unfold DV;simp_all
     rw[hd]at Nl
     rw[Yi (show(48:Int)<=(c.toNat:Int)by omega),Yi (show(c.toNat:Int)<=57 by omega),Cp (by rw[bM,bM];simp;unfold uY;omega),oB (show iq (i:Int) ((i+1:O):Int) (R l)=Ze by unfold iq;grind),jP]
     exact ih N (i+1) (acc++[c]) M M Nl YD
    ·by_cases hd2:65<=c.toNat/\c.toNat<=90
     ·have hd:DV c=D (Lib.itoa ((c.toNat-55:O):Int)):=by unfold DV;grind
      have hdl:=J9 hd;rw[hd]at Nl
      have e1:(Z ((48:Int)<=(c.toNat:Int))&&Z ((c.toNat:Int)<=57))=false:=by
       grind
      have e2:aJ (aJ ((c.toNat:Int)-65)+10)=((c.toNat-55:O):Int):=by
       rw[aV (n:=(c.toNat:Int)-65) ⟨M,M⟩,aV (n:=(c.toNat:Int)-65+10) ⟨M,M⟩];omega
      have e3:cg ((c.toNat-55:O):Int)=D (K (Lib.itoa ((c.toNat-55:O):Int))):=by
       unfold cg;rw[if_pos ⟨M,M⟩]
      rw[e1,Yi (show(65:Int)<=(c.toNat:Int)by omega),Yi (show(c.toNat:Int)<=90 by omega),e2,e3]
      simp only[Bool.and_true,Yx,Yw,VR];rw[Cp (by rw[bM,bM];unfold uY;omega),jP]
      exact ih N (i+1) _ M M Nl YD
     ·have hd:DV c=none:=by unfold DV;grind
      have hn:=IE hc hd
      grind
 have:=key (R l) NN 0 [] M YF YT YE;unfold wq;rw[show(⟨#[]⟩:ByteArray)=K []from rfl,show(0:Int)=((0:O):Int)from rfl,this]
 cases pJ l<;>rfl
theorem Ub(hl:R l<=100000):qd (K l)=D (K ((pJ l).getD []),(pJ l).isSome):=by
 unfold qd;rw[if_pos YZ];rfl
end Go.Proofs.YtbjbellffaenaaaGreatDoor
namespace Go.Proofs.YtbjbellffaenaaaGreatDoor
open Go.RowKit
def qe(l:bt):C ByteArray:=
 J (cR l.ax) λy1=>
 J (nW l.bU 9) λy2=>
 J (V (W y1 y2)) λ_=>
 J (V (W (y1++y2) l.aZ)) λ_=>
 D ((y1++y2)++l.aZ)
instance (l:bt):CT prog (qe l):=⟨240,[.ag (sj l)],[],λr=>vs r,λr=>[],cw (qe.eq_1 ..) func240 ntmps240 results240⟩
def qC(l:bt):C Int:=
 J (km l) λy1=>
 G (!y1)
 (D (-1))
 (J (qe l) λy2=>
 J (qd y2) λy3=>
 J (V (W y3.1 (⟨#[48,48]⟩))) λ_=>
 J (sR (y3.1++⟨#[48,48]⟩)) λy4=>
 D (aJ (98-y4)))
instance (l:bt):CT prog (qC l):=⟨242,[.ag (sj l)],[],λr=>Y r,λr=>[],cw (qC.eq_1 ..) func242 ntmps242 results242⟩
def eu(l:bt):C ByteArray:=
 J (km l) λy1=>
 G (!y1)
 (D (⟨#[]⟩))
 (J (qe l) λy2=>
 J (qC l) λy3=>
 J (nW y3 2) λy4=>
 J (V (W y2 y4)) λ_=>
 D (y2++y4))
instance (l:bt):CT prog (eu l):=⟨193,[.ag (sj l)],[],λr=>vs r,λr=>[],cw (eu.eq_1 ..) func193 ntmps193 results193⟩
def tL(l:bt):C ByteArray:=
 J (cg l.ax) λy1=>
 J (sg l.bU 9) λy2=>
 J (V (W y1 y2)) λ_=>
 J (V (W (y1++y2) l.aZ)) λ_=>
 D ((y1++y2)++l.aZ)
def qK(l:bt):C Int:=
 J (cU l) λy1=>
 G (!y1)
 (D (-1))
 (J (tL l) λy2=>
 J (V (W y2 (⟨#[48,48]⟩))) λ_=>
 J (wq (y2++⟨#[48,48]⟩)) λy3=>
 J (pB y3.1) λy4=>
 D (aJ (98-y4)))
def pA(l:bt):C ByteArray:=
 J (cU l) λy1=>
 G (!y1)
 (D (⟨#[]⟩))
 (J (tL l) λy2=>
 J (qK l) λy3=>
 J (sg y3 2) λy4=>
 J (V (W y2 y4)) λ_=>
 D (y2++y4))
end Go.Proofs.YtbjbellffaenaaaGreatDoor
namespace Go.Proofs.YtbjbellffaenaaaGreatDoor
open Go.RowKit Go.Sort
variable {n:Int}
def Gp(c:UInt8):Prop:=(48<=c.toNat/\c.toNat<=57)\/(65<=c.toNat/\c.toNat<=90)
theorem Zbc{c:UInt8}(h:Gp c):∃a,DV c=D a:=by
 unfold DV
 by_cases h1:48<=c.toNat/\c.toNat<=57
 ·simp_all
 ·rw[if_neg h1]
  rcases h with h|h
  all_goals simp_all
theorem CR:∀{l:F UInt8},(∀c∈l,Gp c)->∃a,pJ l=D a/\(R a)<=21*R l
 | [],_=>⟨[],rfl,by simp⟩
 |c::cs,h=>by
  obtain⟨a,ha⟩:=Zbc (h c YE);obtain⟨b,hb,zY⟩:=CR (l:=cs) λx hx=>h x YD
  have:=J9 ha;exact⟨a++b,by simp only[pJ,ha,hb],by grind⟩
theorem MH{l m a b:F UInt8}(h1:pJ l=D a)(h2:pJ m=D b):pJ (l++m)=D (a++b):=by
 induction l generalizing a with
 |nil=>simp[pJ]at h1;simp_all
 |cons c l ih=>
  simp only[pJ]at h1
  cases hc:DV c with
  |none=>simp_all
  |some x=>
   cases hl:pJ l with
   |none=>simp_all
   |some y=>
    rw[hc,hl]at h1
    cases h1
    simp only[Xa,pJ,hc,ih hl,List.append_assoc]
theorem Zer:∀(k u:O),u<=k->∀c∈Lib.decDigits u,Gp c:=by
 intro k
 induction k with
 |zero=>
  intro u hu c hc;obtain rfl:u=0:=M;rw[Lib.decDigits,dif_pos M]at hc
  simp at hc
  subst hc;left;decide
 |succ k ih=>
  intro u hu c hc;rw[Lib.decDigits]at hc
  by_cases EW:u<10
  ·rw[dif_pos EW]at hc
   obtain rfl:=Wh.1 hc;left;rw[UInt8.toNat_ofNat'];omega
  ·rw[dif_neg EW]at hc
   rcases We.1 hc with h|h
   ·grind
   ·obtain rfl:=Wh.1 h
    left;rw[UInt8.toNat_ofNat'];omega
theorem ND(h:0<=n):∀c∈Lib.itoa n,Gp c:=by
 unfold Lib.itoa;rw[if_neg M];exact Zer _ _ (VW _)
theorem Of{d:O}(h:0<=n):∀c∈sq n d,Gp c:=by
 intro c hc
 rcases We.1 hc with h1|h1
 ·rw[List.eq_of_mem_replicate h1];left;decide
 ·exact ND h c h1
theorem Dy{l:F UInt8}{i:O}{c:UInt8}(h:l[i]?=D c)(hi:i<3):kG (K l) (i:Int)=D (if 65<=c.toNat/\c.toNat<=90 then .inl ((i+1:O):Int)else .inr (.inr Zf)):=by
 have vD:=c.toNat_lt;unfold kG;rw[Yi (show(i:Int)<3 by omega),MZ h]
 simp only[Yw,VR,DL (y:=(c.toNat:Int)) ⟨M,M⟩,cO,bz (n:=3) hi M]
 grind
theorem zb(s:ByteArray):K s.data.toList=s:=W4 YT
theorem Ot{s:ByteArray}(h:cu s=D Ze):s.size=3/\∀c∈s.data.toList,Gp c:=by
 by_cases h3:s.size=3
 ·refine⟨h3,?_⟩
  have hl:R s.data.toList=3:=by simp_all
  obtain⟨n,hn⟩:∃n,NN=n+1+1+1:=⟨NN-3,by rfl⟩
  unfold cu at h
  rw[h3,hn,<-zb s]at h
  revert h hl
  generalize s.data.toList=l;intro hl h
  match l,hl with
  | [a,b,c],_=>
   have ea:=Dy (l:=[a,b,c]) (i:=0) rfl M;have eb:=Dy (l:=[a,b,c]) (i:=1) rfl M;have ec:=Dy (l:=[a,b,c]) (i:=2) rfl M
   by_cases ha:65<=a.toNat/\a.toNat<=90
   ·rw[if_pos ha]at ea
    by_cases hb:65<=b.toNat/\b.toNat<=90
    ·rw[if_pos hb]at eb
     by_cases hc:65<=c.toNat/\c.toNat<=90
     ·intro x hx
      simp at hx
      rcases hx with rfl|rfl|rfl
      ·exact .inr ha
      ·exact .inr hb
      ·exact .inr hc
     ·rw[if_neg hc]at ec
      have e:=(Dd (n:=n+1+1) ea).trans ((Dd (n:=n+1) eb).trans (Su (n:=n) ec))
      simp_all
    ·rw[if_neg hb]at eb
     have e:=(Dd (n:=n+1+1) ea).trans (Su (n:=n+1) eb)
     simp_all
   ·rw[if_neg ha]at ea
    have e:=Su (n:=n+1+1) ea
    simp_all
 ·unfold cu at h
  grind
def vM(l:bt):F UInt8:=Lib.itoa l.ax++sq l.bU 9++l.aZ.data.toList
theorem tw{l:bt}(h:cU l=D Ze):l.aZ.size=3/\∀c∈vM l,Gp c:=by
 unfold cU at h
 rw[cO,cO]at h
 simp only[VR]at h
 cases h1:(Z (1<=l.ax)&&Z (l.ax<=3))with
 |false=>simp_all
 |true=>
  cases h2:(Z (0<=l.bU)&&Z (l.bU<=999999999))with
  |false=>simp_all
  |true=>
   rw[h1,h2]at h
   have h3:cu l.aZ=D true:=by
    simp_all
   obtain⟨hs,hp⟩:=Ot h3;simp only[Bool.and_eq_true,decide_eq_true_eq]at h1 h2
   refine⟨hs,λc hc=>?_⟩
   rcases We.1 hc with hc|hc
   ·rcases We.1 hc with hc|hc
    ·exact ND M c hc
    ·exact Of M c hc
   simp_all
theorem zm{l:bt}(h1:sF l.ax)(h2:sF l.bU)(h3:l.aZ.size<=3):R (vM l)<=45:=by
 have a:=im h1;have b:=Cc (d:=9) h2 M;have c:R l.aZ.data.toList=l.aZ.size:=by rfl
 unfold vM
 grind
theorem fI(h:sF n):cR n=D (K (Lib.itoa n)):=by unfold cR;simp_all
theorem fS(h:sF n):cg n=D (K (Lib.itoa n)):=by unfold cg;simp_all
theorem sOk{a b:ByteArray}(ha:a.size<=100000)(hb:b.size<=100000):V (W a b)=D ():=oB (Cp (by unfold uY;omega))
theorem CK{l:bt}(h1:sF l.ax)(h2:sF l.bU)(h3:l.aZ.size<=3):qe l=D (K (vM l))/\tL l=D (K (vM l)):=by
 have a:=im h1;have b:=Cc (d:=9) h2 M;have e:(K (Lib.itoa l.ax)++K (sq l.bU 9))++l.aZ=K (vM l):=by
  rfl
 have c1:V (W (K (Lib.itoa l.ax)) (K (sq l.bU 9)))=D ():=sOk YZ YZ;have c2:V (W (K (Lib.itoa l.ax)++K (sq l.bU 9)) l.aZ)=D ():=sOk (by rw[jP,bM,V5];omega) M
 have p1:=Jb (d:=9) h2 M;have p2:=Ei (d:=9) h2 M;rw[show((9:O):Int)=9 from rfl]at p1 p2
 refine⟨?_,?_⟩
 ·unfold qe
  simp only[fI h1,p1,VR,c1,c2,e]
 ·unfold tL
  simp only[fS h1,p2,VR,c1,c2,e]
theorem Zfp(h:ZkO n):sF n:=bounds_i64 h
theorem ZdI(n:Int):sF (aJ n):=Zfp (wf_wrap .i64 n)
theorem PW{l:bt}(h1:sF l.ax)(h2:sF l.bU)(h:cU l=D Ze)(hi:km l=D Ze):∃n,sF n/\qC l=D n/\qK l=D n:=by
 obtain⟨hs,hd⟩:=tw h;obtain⟨b1,b2⟩:=CK h1 h2 M;have hl:=zm h1 h2 M;obtain⟨a,ha,hal⟩:=CR hd;have h00:pJ [48,48]=D [48,48]:=rfl;have Un:=MH ha h00;have e48:(⟨#[48,48]⟩:ByteArray)=K [48,48]:=rfl;have c1:V (W (K a) (K [48,48]))=D ():=sOk YZ (by rw[bM];simp)
 have c2:V (W (K (vM l)) (K [48,48]))=D ():=sOk YZ (by rw[bM];simp)
 obtain⟨m,hm⟩:=I3 (s:=K (a++[48,48])) (by rw[bM,V5];unfold NN;grind)
 refine⟨aJ (98-m),ZdI _,?_,?_⟩
 ·unfold qC
  have d1:=Ub (l:=vM l) M;rw[ha]at d1
  simp only[W9,Option.isSome_some]at d1
  simp only[hi,b1,d1,VR,Bool.not_true,Yx,e48,c1,jP,Zcl,hm]
 ·unfold qK
  have d1:=DW (l:=vM l++[48,48]) YD;rw[Un]at d1
  simp only[W9,Option.isSome_some]at d1
  simp only[h,b2,d1,VR,Bool.not_true,Yx,e48,c2,jP,hm]
end Go.Proofs.YtbjbellffaenaaaGreatDoor
namespace Go.Proofs.YtbjbellffaenaaaGreatDoor
open Go.RowKit
def gY(p:aP):C ByteArray:=
 J (iv p) λy1=>
 G (!y1)
 (D (⟨#[]⟩))
 (J (az p.bJ 0) λy2=>
 J (cR y2) λy3=>
 J (V (W y3 (⟨#[120]⟩))) λ_=>
 J (az p.bJ 1) λy4=>
 J (cR y4) λy5=>
 J (V (W (y3++⟨#[120]⟩) y5)) λ_=>
 J (V (W ((y3++⟨#[120]⟩)++y5) (⟨#[120]⟩))) λ_=>
 J (az p.bJ 2) λy6=>
 J (cR y6) λy7=>
 J (V (W (((y3++⟨#[120]⟩)++y5)++⟨#[120]⟩) y7)) λ_=>
 J (eu p.label) λy8=>
 J (V (W y8 (⟨#[32]⟩))) λ_=>
 J (V (W (y8++⟨#[32]⟩) p.ar)) λ_=>
 J (V (W ((y8++⟨#[32]⟩)++p.ar) (⟨#[32]⟩))) λ_=>
 J (cR p.ah) λy9=>
 J (V (W (((y8++⟨#[32]⟩)++p.ar)++⟨#[32]⟩) y9)) λ_=>
 J (V (W ((((y8++⟨#[32]⟩)++p.ar)++⟨#[32]⟩)++y9) (⟨#[32]⟩))) λ_=>
 J (V (W (((((y8++⟨#[32]⟩)++p.ar)++⟨#[32]⟩)++y9)++⟨#[32]⟩) ((((y3++⟨#[120]⟩)++y5)++⟨#[120]⟩)++y7))) λ_=>
 J (V (W ((((((y8++⟨#[32]⟩)++p.ar)++⟨#[32]⟩)++y9)++⟨#[32]⟩)++((((y3++⟨#[120]⟩)++y5)++⟨#[120]⟩)++y7)) (⟨#[32]⟩))) λ_=>
 J (cR p.value) λdO=>
 J (V (W (((((((y8++⟨#[32]⟩)++p.ar)++⟨#[32]⟩)++y9)++⟨#[32]⟩)++((((y3++⟨#[120]⟩)++y5)++⟨#[120]⟩)++y7))++⟨#[32]⟩) dO)) λ_=>
 D ((((((((y8++⟨#[32]⟩)++p.ar)++⟨#[32]⟩)++y9)++⟨#[32]⟩)++((((y3++⟨#[120]⟩)++y5)++⟨#[120]⟩)++y7))++⟨#[32]⟩)++dO))
instance (p:aP):CT prog (gY p):=⟨126,[.ag (cd p)],[],λr=>vs r,λr=>[],cw (gY.eq_1 ..) func126 ntmps126 results126⟩
def pT(t:au):C ByteArray:=
 J (cR t.bq) λy1=>
 J (V (W y1 (⟨#[47]⟩))) λ_=>
 J (cR t.day) λy2=>
 J (V (W (y1++⟨#[47]⟩) y2)) λ_=>
 D ((y1++⟨#[47]⟩)++y2)
instance (t:au):CT prog (pT t):=⟨128,[.ag (bg t)],[],λr=>vs r,λr=>[],cw (pT.eq_1 ..) func128 ntmps128 results128⟩
def bN(a:bk):C ByteArray:=
 J (bS a) λy1=>
 G (!y1)
 (D (⟨#[]⟩))
 (G (Z (a.kind=1))
 (J (gY a.aM) λy2=>
 J (V (W (⟨#[116,97,107,101,32]⟩) y2)) λ_=>
 D (⟨#[116,97,107,101,32]⟩++y2))
 (G (Z (a.kind=2))
 (J (cR a.order) λy3=>
 J (V (W (⟨#[112,97,121,32]⟩) y3)) λ_=>
 J (V (W (⟨#[112,97,121,32]⟩++y3) (⟨#[32]⟩))) λ_=>
 J (cR a.bE) λy4=>
 J (V (W ((⟨#[112,97,121,32]⟩++y3)++⟨#[32]⟩) y4)) λ_=>
 D (((⟨#[112,97,121,32]⟩++y3)++⟨#[32]⟩)++y4))
 (G (Z (a.kind=3))
 (J (cR a.bG) λy5=>
 J (V (W (⟨#[114,117,110,32]⟩) y5)) λ_=>
 D (⟨#[114,117,110,32]⟩++y5))
 (G (Z (a.kind=4))
 (J (pT a.aN) λy6=>
 J (V (W (⟨#[115,104,117,116,32]⟩) y6)) λ_=>
 D (⟨#[115,104,117,116,32]⟩++y6))
 (G (Z (a.kind=5))
 (D (⟨#[114,101,116,114,121]⟩))
 (J (cR a.order) λy7=>
 J (V (W (⟨#[114,101,102,117,110,100,32]⟩) y7)) λ_=>
 D (⟨#[114,101,102,117,110,100,32]⟩++y7)))))))
instance (a:bk):CT prog (bN a):=⟨61,[.ag (fQ a)],[],λr=>vs r,λr=>[],cw (bN.eq_1 ..) func61 ntmps61 results61⟩
def rB(p:aP):C ByteArray:=
 J (fm p) λy1=>
 G (!y1)
 (D (⟨#[]⟩))
 (J (pA p.label) λy2=>
 J (V (W y2 (⟨#[32]⟩))) λ_=>
 J (V (W (y2++⟨#[32]⟩) p.ar)) λ_=>
 J (V (W ((y2++⟨#[32]⟩)++p.ar) (⟨#[32]⟩))) λ_=>
 J (cg p.ah) λy3=>
 J (V (W (((y2++⟨#[32]⟩)++p.ar)++⟨#[32]⟩) y3)) λ_=>
 J (V (W ((((y2++⟨#[32]⟩)++p.ar)++⟨#[32]⟩)++y3) (⟨#[32]⟩))) λ_=>
 J (az p.bJ 0) λy4=>
 J (cg y4) λy5=>
 J (V (W (((((y2++⟨#[32]⟩)++p.ar)++⟨#[32]⟩)++y3)++⟨#[32]⟩) y5)) λ_=>
 J (V (W ((((((y2++⟨#[32]⟩)++p.ar)++⟨#[32]⟩)++y3)++⟨#[32]⟩)++y5) (⟨#[120]⟩))) λ_=>
 J (az p.bJ 1) λy6=>
 J (cg y6) λy7=>
 J (V (W (((((((y2++⟨#[32]⟩)++p.ar)++⟨#[32]⟩)++y3)++⟨#[32]⟩)++y5)++⟨#[120]⟩) y7)) λ_=>
 J (V (W ((((((((y2++⟨#[32]⟩)++p.ar)++⟨#[32]⟩)++y3)++⟨#[32]⟩)++y5)++⟨#[120]⟩)++y7) (⟨#[120]⟩))) λ_=>
 J (az p.bJ 2) λy8=>
 J (cg y8) λy9=>
 J (V (W (((((((((y2++⟨#[32]⟩)++p.ar)++⟨#[32]⟩)++y3)++⟨#[32]⟩)++y5)++⟨#[120]⟩)++y7)++⟨#[120]⟩) y9)) λ_=>
 J (V (W ((((((((((y2++⟨#[32]⟩)++p.ar)++⟨#[32]⟩)++y3)++⟨#[32]⟩)++y5)++⟨#[120]⟩)++y7)++⟨#[120]⟩)++y9) (⟨#[32]⟩))) λ_=>
 J (cg p.value) λdO=>
 J (V (W (((((((((((y2++⟨#[32]⟩)++p.ar)++⟨#[32]⟩)++y3)++⟨#[32]⟩)++y5)++⟨#[120]⟩)++y7)++⟨#[120]⟩)++y9)++⟨#[32]⟩) dO)) λ_=>
 D ((((((((((((y2++⟨#[32]⟩)++p.ar)++⟨#[32]⟩)++y3)++⟨#[32]⟩)++y5)++⟨#[120]⟩)++y7)++⟨#[120]⟩)++y9)++⟨#[32]⟩)++dO))
def dC(a:bk):C ByteArray:=
 J (fM a) λy1=>
 G (!y1)
 (D (⟨#[]⟩))
 (G (Z (a.kind=1))
 (J (rB a.aM) λy2=>
 J (V (W (⟨#[116,97,107,101,32]⟩) y2)) λ_=>
 D (⟨#[116,97,107,101,32]⟩++y2))
 (G (Z (a.kind=2))
 (J (cg a.order) λy3=>
 J (V (W (⟨#[112,97,121,32]⟩) y3)) λ_=>
 J (V (W (⟨#[112,97,121,32]⟩++y3) (⟨#[32]⟩))) λ_=>
 J (cg a.bE) λy4=>
 J (V (W ((⟨#[112,97,121,32]⟩++y3)++⟨#[32]⟩) y4)) λ_=>
 D (((⟨#[112,97,121,32]⟩++y3)++⟨#[32]⟩)++y4))
 (G (Z (a.kind=3))
 (J (cg a.bG) λy5=>
 J (V (W (⟨#[114,117,110,32]⟩) y5)) λ_=>
 D (⟨#[114,117,110,32]⟩++y5))
 (G (Z (a.kind=4))
 (J (cg a.aN.bq) λy6=>
 J (V (W (⟨#[115,104,117,116,32]⟩) y6)) λ_=>
 J (V (W (⟨#[115,104,117,116,32]⟩++y6) (⟨#[47]⟩))) λ_=>
 J (cg a.aN.day) λy7=>
 J (V (W ((⟨#[115,104,117,116,32]⟩++y6)++⟨#[47]⟩) y7)) λ_=>
 D (((⟨#[115,104,117,116,32]⟩++y6)++⟨#[47]⟩)++y7))
 (G (Z (a.kind=5))
 (D (⟨#[114,101,116,114,121]⟩))
 (J (cg a.order) λy8=>
 J (V (W (⟨#[114,101,102,117,110,100,32]⟩) y8)) λ_=>
 D (⟨#[114,101,102,117,110,100,32]⟩++y8)))))))
end Go.Proofs.YtbjbellffaenaaaGreatDoor
namespace Go.Proofs.YtbjbellffaenaaaGreatDoor
open Go.RowKit Go.Sort
def TN{a b:ByteArray}(ha:a.size+b.size<=100000000):V (W a b)=D ():=oB (Cp (by unfold uY;omega))
abbrev zP:aP:=⟨⟨0,0,⟨#[]⟩⟩,⟨#[]⟩,0,[],0⟩
def De{l:bt}(h:cU l=D Ze):(1<=l.ax/\l.ax<=3)/\(0<=l.bU/\l.bU<=999999999):=by
 unfold cU at h
 simp only[cO,VR]at h
 grind
def QU{p:aP}(h1:p.label.aZ.size<=uY)(h2:p.ar.size<=uY)(h3:R p.bJ<NN)(h:fm p=D Ze):cU p.label=D Ze/\cu p.ar=D Ze/\(1<=p.ah/\p.ah<=30000)/\xN p.bJ=Ze/\(0<=p.value/\p.value<=500000):=by
 obtain⟨_,b1,qV⟩:=Gu h1;obtain⟨_,b2,yb⟩:=pn h2;obtain⟨_,b3,hb3⟩:=M3 h3
 revert h
 unfold fm;simp only[qV,yb,hb3,Ff h3,cO,VR]
 grind
def ZdF{l:F Int}(h:xN l=Ze):∃x y z,l=[x,y,z]/\(1<=x/\x<=2000)/\(1<=y/\y<=2000)/\(1<=z/\z<=2000):=by
 have hl:=DJ h
 match l,hl with
 | [x,y,z],_=>exact⟨x,y,z,rfl,by simpa[xN]using h⟩
def fz{n:Int}(h:0<=n/\n<=1000000000):sF n:=⟨M,M⟩
end Go.Proofs.YtbjbellffaenaaaGreatDoor
namespace Go.Proofs.YtbjbellffaenaaaGreatDoor
open Go.RowKit
variable {b i j:O}{v:Int}{x y z:Value}
def jd(s sep:ByteArray):C (ByteArray×ByteArray×Bool):=if s.size<=100000000 then D (K (Lib.cut s.data.toList sep.data.toList).1,K (Lib.cut s.data.toList sep.data.toList).2.1,(Lib.cut s.data.toList sep.data.toList).2.2)else Zd
def jM(s sep:ByteArray):C (F ByteArray):=if s.size<=100000000/\1<=sep.size then D (Lib.splitB sep 0 (Lib.countB s sep) s)else Zd
def dG(s:ByteArray):C (Int×Bool):=if s.size<=100000000 then D (match Lib.atoiAll s.data.toList with
 |.ok n=>if 0<=n/\n<=1000000000/\K (Lib.itoa n)=s then(n,Ze)else(0,Zf)
 |_=>(0,Zf))else Zd
theorem zd(l:F UInt8):(K l).data.toList=l:=by simp[K]
theorem Uu{n:Int}(h0:0<=n)(h1:n<=1000000000)(hl:R (Lib.itoa n)<=100000000):dG (K (Lib.itoa n))=D (n,Ze):=by
 unfold dG;rw[if_pos (by rw[bM];exact hl),zd,Iw h0 M]
 simp[h0,h1]
theorem Ar{c:UInt8}{a b:F UInt8}(h:c ∉ a)(hl:R a+R b<100000000):jd (K (a++c::b)) (K [c])=D (K a,K b,Ze):=by
 unfold jd;rw[if_pos (by rw[bM];simp;omega),zd,zd,Zeo h]
theorem Zep{c:UInt8}{a:F UInt8}(h:c ∉ a)(hl:R a<=100000000):jd (K a) (K [c])=D (K a,K [],Zf):=by
 unfold jd;rw[if_pos (by rw[bM];exact hl),zd,zd,ZhD h]
theorem Hl{c:UInt8}{L:F UInt8}(hL:R L<=100000000):jM (K L) (K [c])=D ((ll c L).map K):=by
 unfold jM;rw[if_pos ⟨by rw[bM];exact hL,by rw[bM];simp⟩]
 congr 1
 have h:=Lib.splitB_data (K [c]) 0 (Lib.countB (K L) (K [c])) (K L);rw[zd,zd]at h
 have hc:Lib.countB (K L) (K [c])=Lib.count L [c]:=by unfold Lib.countB;rw[zd,zd]
 rw[hc]at h⊢
 rw[Jx c (R L) L (VW _)]at h
 rw[<-h,List.map_map];have e:(K∘λx:ByteArray=>x.data.toList)=id:=by funext x;exact W4 (by simp[K])
 rw[e,List.map_id]
theorem N9:¬oW (λ_=>Zd) b:=by rintro⟨l,B,h,_⟩;cases h
theorem eh.val{P:Program}{f:FuncId}{args:F PV}{val:Value}(h:eh P f args [] (.v val) []){w:World}(ht:DM w (oW λ_=>Zd)){vs:Zp Value}(hl:vs.size=R args)(ha:∀(i:O) (p:PV),args[i]?=D p->∃x,vs[i]?=D x/\eC w (E1 (λb=>b<w.heap.size) (λ_=>Zd) 0) p x):
 Calls P f vs w λe w'=>e=.returned val/\Up w w':=by
 have hok:Ok w (oW λ_=>Zd) (E1 (λb=>b<w.heap.size) (λ_=>Zd) 0) w []:=
  ⟨Fs.refl _ _,λb h=>h,λl B h=>YM,λl l' B B' h=>YM,λl h=>absurd h (Nat.not_lt_zero l),λl B h=>YM,λl mb h=>(by simp at h),λl B h=>YM,ht,λ_ _ h=>h.elim⟩
 refine(h (λb=>b<w.heap.size) (λ_=>Zd) w vs (λ_ _=>False) hok hl ha).mono ?_
 rintro e w' ⟨v,E',rfl,hk,_,_,_,hr⟩;obtain⟨rfl,_⟩:=hr.jw;exact⟨rfl,hk.up.os,hk.up.tape,hk.up.output,hk.up.size,λb hb=>hk.up.block b hb N9⟩
theorem Zgr{w w':World}(h:ZdP w)(he:∀b,b<w.heap.size->w'.heap[b]?=w.heap[b]?):ZdP w':=by
 unfold ZdP Lib.TabIs World.var? at *
 cases hg : prog.globalNamed "internal/strconv.uint64pow10" with
 |none=>rw[hg]at h;cases h
 |some g=>
  rw[hg]at h
  simp only[VR]at h⊢
  have bD:g<w.heap.size:=by
   rcases Wu g w.heap.size with h'|h'
   ·exact h'
   ·rw[XE h']at h;cases h
  rw[he g bD];exact h
theorem FP{w w':World}{v:Value}(h:w.cell? ⟨b,0,Zd⟩=D v)(he:∀b,b<w.heap.size->w'.heap[b]?=w.heap[b]?):w'.cell? ⟨b,0,Zd⟩=D v:=by
 have bD:b<w.heap.size:=by
  rcases Wu b w.heap.size with h'|h'
  ·exact h'
  ·simp[World.cell?,XE h']at h
 rw[<-h];simp[World.cell?,he b bD]
theorem Tj{w w':World}(h:Zo w)(he:∀b,b<w.heap.size->w'.heap[b]?=w.heap[b]?):Zo w':=by
 obtain⟨m,hm⟩:=h.mx;obtain⟨t,p,ht⟩:=h.es;obtain⟨t1,p1,ht1⟩:=h.er;exact⟨Zgr h.JC he,⟨m,FP hm he⟩,⟨t,p,FP ht he⟩,⟨t1,p1,FP ht1 he⟩⟩
theorem xL{w w':World}(h:Zo w)(hu:Up w w'):Zo w':=Tj h λb hb=>hu.block b hb
theorem tab_of_F{w:World}(h:Zo w):DM w (oW λ_=>Zd):=⟨λb=>b<w.heap.size,λb hb=>⟨hb,N9⟩,λw' hw'=>Tj h hw'⟩
theorem GH(s sep:ByteArray){r:ByteArray×ByteArray×Bool}(H:jd s sep=D r):eh prog 121 [Go.Proofs.YtbjbellffaenaaaGreatDoor.vs s,Go.Proofs.YtbjbellffaenaaaGreatDoor.vs sep] [] (.tu [Go.Proofs.YtbjbellffaenaaaGreatDoor.vs r.1,Go.Proofs.YtbjbellffaenaaaGreatDoor.vs r.2.1,vb r.2.2]) []:=by
 unfold jd at H
 split at H
 case isFalse=>cases H
 rename_i hn;obtain rfl:=VV H;refine xn (val:=.tuple #[.string (K (Lib.cut s.data.toList sep.data.toList).1),.string (K (Lib.cut s.data.toList sep.data.toList).2.1),.bool (Lib.cut s.data.toList sep.data.toList).2.2]) (λw E=>.tu _ _ rfl λj p x hp hx=>?_) λS β w vs xh ht hl ha=>?_
 ·match j,hp,hx with
  |0,hp,hx|1,hp,hx|2,hp,hx=>simp at hp hx;subst hp hx;exact .c (.v _ rfl)
  |j+3,hp,hx=>simp at hx
 ·obtain⟨x,hx,hr⟩:=ha 0 _ rfl
  obtain⟨x1,Qm,hr1⟩:=ha 1 _ rfl;obtain rfl:=ar2 hl hx Qm;obtain rfl:=rv1 hr;obtain rfl:=rv1 hr1;obtain⟨m,hm⟩:=ht.mx;refine(Tryz.strings_Cut s sep m w M hm).mono ?_;rintro e w' ⟨rfl,n,rfl⟩;exact⟨rfl,by(repeat(first|exact Up.rfl' _|(refine Up.al _ ?_) |(refine Up.dr _ ?_) |(refine Up.sZ ?_) |(refine Up.sc ?_ YH _) |(refine Up.step YN ?_)))⟩
instance (s sep:ByteArray):CT prog (jd s sep):=⟨121,[vs s,vs sep],[],λr=>.tu [vs r.1,vs r.2.1,vb r.2.2],λr=>[],GH s sep⟩
theorem Dq(s sep:ByteArray){r:F ByteArray}(H:jM s sep=D r):eh prog 58 [Go.Proofs.YtbjbellffaenaaaGreatDoor.vs s,Go.Proofs.YtbjbellffaenaaaGreatDoor.vs sep] [] (.ms 0) [D ⟨.of 9,1,r.map jQ⟩]:=by
 unfold jM at H
 split at H
 case isFalse=>cases H
 rename_i hn;obtain rfl:=VV H;intro S β w vs ω hk hl ha;obtain⟨x,hx,hr⟩:=ha 0 _ rfl;obtain⟨x1,Qm,hr1⟩:=ha 1 _ rfl;obtain rfl:=ar2 hl hx Qm;obtain rfl:=rv1 hr;obtain rfl:=rv1 hr1;obtain⟨m,hm⟩:=hk.JC.here.mx;refine(Tryz.strings_Split s sep m w M hm hn.2).mono ?_;rintro e w' ⟨rfl,rfl⟩;have Qd:=Lib.splitB_all sep hn.2 0 _ s rfl;have hle:=Lib.countB_le sep hn.2 _ s (VW _);have ho:Own (w.alloc (.cells ((Lib.splitB sep 0 (Lib.countB s sep) s).map Value.string).toArray 9)) w.heap.size 9 (.slice (D ⟨w.heap.size,0,Zd⟩) (Lib.countB s sep+1) (Lib.countB s sep+1)) (Lib.splitB sep 0 (Lib.countB s sep) s):=by
  refine⟨nd _,.inr ⟨w.heap.size,Lib.countB s sep+1,((Lib.splitB sep 0 (Lib.countB s sep) s).map Value.string).toArray,by rw[Qd],VW _,Yl,M,by unfold maxLen;omega,?_,?_⟩⟩
  ·rw[List.size_toArray,Wi,Qd];exact(Nat.mul_one _).symm
  ·rw[CW,List.toList_toArray];exact List.take_of_length_le (by rw[Wi];exact Nat.le_of_eq (Nat.mul_one _).symm)
 obtain⟨E',h1,h2,h3,h4,h5⟩:=uU (c:=jQ) hk ho YB (λx=>⟨rfl,λj p hj=>by
  cases j with
  |zero=>obtain rfl:Go.Proofs.YtbjbellffaenaaaGreatDoor.vs x=p:=by simpa using hj
         exact⟨_,rfl,rfl,λw E=>.c (.v _ rfl)⟩
  |succ j=>simp[jQ]at hj⟩)
 exact⟨_,E',rfl,h1,h2,h3,h4,h5⟩
instance (s sep:ByteArray):CT prog (jM s sep):=⟨58,[vs s,vs sep],[],λr=>.ms 0,λr=>[D ⟨.of 9,1,r.map jQ⟩],Dq s sep⟩
@[go_sem] theorem Znu:wk prog 121:=⟨_,func121,rfl,by kernel_rfl⟩
@[go_sem] theorem Zlv:wk prog 58:=⟨_,func58,rfl,by kernel_rfl⟩
theorem ZdH{w w':World}{T:TypeId}(h:w'=w\/∃t,w'=Lib.bytesWorld w T t):Up w w':=by
 rcases h with rfl|⟨t,rfl⟩
 ·exact Below.refl _ _
 ·exact Lib.bytesWorld_below _ _ _
theorem wA(s:ByteArray)(hs:s.size<=100000000)(h:Lib.atoiAll s.data.toList=.ok v)(w:World):Calls prog 190 #[.string s] w λe w'=>e=.returned (.tuple #[Zh Zi v,.nilIface])/\Up w w':=
 (Tryz.strconv_Atoi_ok s M v h w).mono λe w' ⟨h1,h2⟩=>⟨h1,ZdH h2⟩
theorem Bh(s:ByteArray)(hs:s.size<=100000000)(h:∀v,Lib.atoiAll s.data.toList≠.ok v)(w:World)(ht:Zo w):Calls prog 190 #[.string s] w λe w'=>∃n t p,e=.returned (.tuple #[Zh Zi n,.iface t p])/\Up w w':=by
 obtain⟨t1,p1,h1⟩:=ht.es;obtain⟨t2,p2,h2⟩:=ht.er
 cases hc:Lib.atoiAll s.data.toList with
 |ok v=>exact absurd hc (h v)
 |range=>exact(Tryz.strconv_Atoi_range s M hc _ w h2 (.inr ⟨_,_,rfl⟩)).mono λe w' ⟨N,h1,_,_,h2⟩=>⟨_,_,_,h1,h2⟩
 |_=>exact(Tryz.strconv_Atoi_syntax s M hc _ w h1 (.inr ⟨_,_,rfl⟩)).mono λe w' ⟨N,h1,_,_,h2⟩=>⟨_,_,_,h1,h2⟩
theorem ZaM{z s:ByteArray}(h:¬z=s):(z.toList==s.toList)=false:=by
 rw[beq_eq_false_iff_ne,ByteArray.toList_eq,ByteArray.toList_eq];exact λe=>h (W4 (X1.1 e))
theorem Ij(s:ByteArray)(hs:s.size<=100000000)(h:Lib.atoiAll s.data.toList=.ok v)(w:World)(ht:Zo w):Calls prog 123 #[.string s] w λe w'=>e=.returned (.tuple #[Zh Zi (if 0<=v/\v<=1000000000/\K (Lib.itoa v)=s then v else 0),.bool (Z (0<=v/\v<=1000000000/\K (Lib.itoa v)=s))])/\Up w w':=by
 obtain⟨b0,b1⟩:=Zd5 h;have hA:=wA s hs h;have hI:=λw1 (hu:Up w w1)=>Tryz.strconv_Itoa v b0 b1 w1 (xL ht hu).JC
 by_cases c0:v<0
 ·rw[if_neg M,Yt M]
  go_enter func123,ntmps123
  go_wp2_with (go_at_call 190;refine(hA _).mono ?_;rintro e w1 ⟨rfl,vJ⟩)
  go_ret2
  exact⟨rfl,vJ⟩
 by_cases c1:1000000000<v
 ·rw[if_neg M,Yt M]
  go_enter func123,ntmps123
  go_wp2_with (go_at_call 190;refine(hA _).mono ?_;rintro e w1 ⟨rfl,vJ⟩)
  go_ret2
  exact⟨rfl,vJ⟩
 have hI2:∀w1,Up w w1->Calls prog 191 #[Zh Zi v] w1 λe w'=>e=.returned (.string (K (Lib.itoa v)))/\Up w1 w':=λw1 hu=>(hI w1 hu).mono λe w' ⟨h1,k,os,h2⟩=>⟨h1,h2▸Tu _ _ _⟩
 by_cases ce:K (Lib.itoa v)=s
 ·rw[if_pos ⟨M,M,ce⟩,Yi ⟨M,M,ce⟩]
  rw[ce]at hI2
  clear hI ce
  go_enter func123,ntmps123
  go_wp2_with (first
   |(go_at_call 190;refine(hA _).mono ?_;rintro e w1 ⟨rfl,vJ⟩)
   |(go_at_call 191;refine(hI2 _ YN).mono ?_;rintro e w2 ⟨rfl,Ab⟩))
  go_ret2
  exact⟨rfl,Up.step Ab vJ⟩
 ·rw[if_neg λh=>ce h.2.2,Yt λh=>ce h.2.2]
  clear hI;generalize K (Lib.itoa v)=z at *
  have hq:=ZaM ce
  go_enter func123,ntmps123
  go_wp2_with (first
   |(go_at_call 190;refine(hA _).mono ?_;rintro e w1 ⟨rfl,vJ⟩)
   |(go_at_call 191;refine(hI2 _ YN).mono ?_;rintro e w2 ⟨rfl,Ab⟩))
  go_ret2
  exact⟨rfl,Up.step Ab vJ⟩
theorem KX(s:ByteArray)(hs:s.size<=100000000)(h:∀v,Lib.atoiAll s.data.toList≠.ok v)(w:World)(ht:Zo w):Calls prog 123 #[.string s] w λe w'=>e=.returned (.tuple #[Zh Zi 0,.bool Zf])/\Up w w':=by
 have hA:=Bh s hs h
 go_enter func123,ntmps123
 go_wp2_with (go_at_call 190;refine(hA _ ht).mono ?_;rintro e w1 ⟨n,t,p,rfl,vJ⟩)
 go_ret2
 exact⟨rfl,vJ⟩
theorem Dl(s:ByteArray){r:Int×Bool}(H:dG s=D r):eh prog 123 [Go.Proofs.YtbjbellffaenaaaGreatDoor.vs s] [] (.tu [Y r.1,vb r.2]) []:=by
 unfold dG at H
 split at H
 case isFalse=>cases H
 rename_i hn;have hr:=VV H;refine xn (val:=.tuple #[Zh Zi r.1,.bool r.2]) (λw E=>.tu _ _ rfl λj p x hp hx=>?_) λS β w vs xh ht hl ha=>?_
 ·match j,hp,hx with
  |0,hp,hx|1,hp,hx=>simp at hp hx;subst hp hx;exact .c (.v _ rfl)
  |j+2,hp,hx=>simp at hx
 ·obtain⟨x,hx,hr1⟩:=ha 0 _ rfl
  obtain rfl:=ar1 hl hx;obtain rfl:=rv1 hr1
  cases h:Lib.atoiAll s.data.toList with
  |ok v=>
   refine(Ij s hn h w ht).mono λe w' ⟨h1,h2⟩=>⟨?_,h2⟩
   rw[h1];rw[h]at hr
   simp only at hr
   by_cases c:0<=v/\v<=1000000000/\K (Lib.itoa v)=s
   ·rw[if_pos c]at hr;rw[if_pos c,Yi c,<-hr]
   ·rw[if_neg c]at hr;rw[if_neg c,Yt c,<-hr]
  |_=>
   rw[h]at hr
   rw[<-hr];exact KX s hn (λv e=>by rw[h]at e;cases e) w ht
instance (s:ByteArray):CT prog (dG s):=⟨123,[vs s],[],λr=>.tu [Y r.1,vb r.2],λr=>[],Dl s⟩
def E7:bt:=⟨0,0,⟨#[]⟩⟩
def kB(s:ByteArray):C (bt×Bool):=
 if s.size<=100000000 then if s.size=15 then match Lib.atoiAll (s.extract 0 1).data.toList,Lib.atoiAll (s.extract 1 10).data.toList with
  |.ok a,.ok b=>J (eu ⟨a,b,s.extract 10 13⟩) λt=>D (if t=s then(⟨a,b,s.extract 10 13⟩,Ze)else(E7,Zf))
  |_,_=>D (E7,Zf)
 else D (E7,Zf)else Zd
theorem Zhj{w:World}(a b:Int)(t:ByteArray):∀(i:O) (p:PV),[PV.ag (sj ⟨a,b,t⟩)][i]?=D p->∃x,(#[.agg #[Zh Zi a,Zh Zi b,.string t]]:Zp Value)[i]?=D x/\eC w (E1 (λb=>b<w.heap.size) (λ_=>Zd) 0) p x:=by
 intro i p hp
 match i,hp with
 |0,hp=>
  obtain rfl:=VV hp;refine⟨_,rfl,.ag _ _ rfl (λj x PB=>?_) λj p x hp PB=>?_⟩
  ·match j,PB with
   |0,h|1,h|2,h=>obtain rfl:=VV h;rfl
   |j+3,h=>grind
  ·match j,hp,PB with
   |0,hp,Gl|1,hp,Gl|2,hp,Gl=>obtain rfl:=VV Gl;obtain rfl:=VV hp;exact .c (.v _ rfl)
   |j+3,hp,_=>simp_all
 |n+1,hp=>grind
theorem F8{a b:Int}{t z:ByteArray}(h:eu ⟨a,b,t⟩=D z)(w:World)(ht:Zo w):Calls prog 193 #[.agg #[Zh Zi a,Zh Zi b,.string t]] w λe w'=>e=.returned (.string z)/\Up w w':=by
 have c:=CT.ok (P:=prog) h;simp only[CT.f,CT.args,CT.m0,CT.res,CT.mem]at c
 exact eh.val c (tab_of_F ht) rfl (Zhj a b t)
def Bx(b:O)(w:World)(x y z:Value):Prop:=w.heap[b]?=D (.cells #[x,y,z] 56)
theorem Bx.c{w:World}(h:Bx b w x y z):w.cell? ⟨b,0,Zd⟩=D x/\w.cell? ⟨b,1,Zd⟩=D y/\w.cell? ⟨b,2,Zd⟩=D z/\w.frozen? ⟨b,0,Zd⟩=Zf/\w.frozen? ⟨b,1,Zd⟩=Zf/\w.frozen? ⟨b,2,Zd⟩=false:=by
 unfold Bx at h
 simp[World.cell?,World.frozen?,h]
theorem Bx.up{w w':World}(h:Bx b w x y z)(hu:Up w w'):Bx b w' x y z:=(hu.block b (V6.1 h).1).trans h
theorem Bx.new(w:World)(x y z:Value):Bx w.heap.size (w.alloc (.cells #[x,y,z] 56)) x y z:=Yl
theorem Bx.AK{w:World}(h:Bx b w x y z)(o:Obj):Bx b (w.alloc o) x y z:=by
 have hb:=(V6.1 h).1;unfold Bx at *
 rw[<-h];exact Array.getElem?_push_lt hb |>.trans (Array.getElem?_eq_getElem hb).symm
theorem Bx.lt{w:World}(h:Bx b w x y z):b<w.heap.size:=(V6.1 h).1
theorem GN(s:ByteArray)(w:World)(hs:¬s.size=15)(hm:s.size<=100000000):Calls prog 189 #[.string s] w λe w'=>e=.returned (.tuple #[.agg #[Zh Zi 0,Zh Zi 0,.string ⟨#[]⟩],.bool Zf])/\Up w w':=by
 have C6:¬(s.size:Int)=15:=M
 go_enter func189,ntmps189
 go_wp2
 (try simp only[Exit.inBlock,Exit.then])
 refine bodyPost_ret (v:=.tuple #[.agg #[Zh Zi 0,Zh Zi 0,.string ⟨#[]⟩],.bool Zf]) ?_ rfl ?_
 ·rw[results_cell_tmp rfl]
  go_simp
 ·exact⟨rfl,by(repeat(first|exact Up.rfl' _|(refine Up.al _ ?_) |(refine Up.dr _ ?_) |(refine Up.sZ ?_) |(refine Up.sc ?_ YH _) |(refine Up.step YN ?_)))⟩
theorem CV{s:ByteArray}(hs:s.size=15):(s.extract i j).size<=15:=by rw[ByteArray.size_extract];omega
theorem EC(s:ByteArray)(w:World)(ht:Zo w)(hs:s.size=15)(h1:∀v,Lib.atoiAll (s.extract 0 1).data.toList≠.ok v):Calls prog 189 #[.string s] w λe w'=>e=.returned (.tuple #[.agg #[Zh Zi 0,Zh Zi 0,.string ⟨#[]⟩],.bool Zf])/\Up w w':=by
 have hz:=CV (i:=0) (j:=1) hs;have IQ:=CV (i:=1) (j:=10) hs;have hA:=λw1 (hu:Up w w1)=>Bh (s.extract 0 1) M h1 w1 (xL ht hu)
 have C6:(s.size:Int)=15:=M
 by_cases h2:∃v,Lib.atoiAll (s.extract 1 10).data.toList=.ok v
 ·obtain⟨v,h2⟩:=h2
  have hB:=λw1=>wA (s.extract 1 10) M h2 w1
  clear h1 h2 hz IQ
  go_enter func189,ntmps189
  go_wp2_with (first
   |(go_at_call 190;with_reducible (refine(hA _ YB).mono ?_);rintro e w1 ⟨n,t,p,rfl,vJ⟩;have B1:=(Bx.new w _ _ _).up vJ)
   |(go_at_call 190;with_reducible (refine(hB _).mono ?_);rintro e w2 ⟨rfl,Ab⟩;have B2:=B1.up Ab;obtain⟨d0,d1,d2,e0,e1,e2⟩:=B2.c;have z1:=B2.lt;have z2:=XI z1))
  (try simp only[Exit.inBlock,Exit.then])
  refine bodyPost_ret (v:=.tuple #[.agg #[Zh Zi 0,Zh Zi 0,.string ⟨#[]⟩],.bool Zf]) ?_ rfl ?_
  ·rw[results_cell_tmp rfl]
   go_simp
  ·exact⟨rfl,by(repeat(first|exact Up.rfl' _|(refine Up.al _ ?_) |(refine Up.dr _ ?_) |(refine Up.sZ ?_) |(refine Up.sc ?_ YH _) |(refine Up.step YN ?_)))⟩
 ·have hB:=λw1 (hu:Up w w1)=>Bh (s.extract 1 10) M (λv e=>h2 ⟨v,e⟩) w1 (xL ht hu)
  clear h1 h2 hz IQ
  go_enter func189,ntmps189
  go_wp2_with (first
   |(go_at_call 190;with_reducible (refine(hA _ YB).mono ?_);rintro e w1 ⟨n,t,p,rfl,vJ⟩;have B1:=(Bx.new w _ _ _).up vJ)
   |(go_at_call 190;with_reducible (refine(hB _ YB).mono ?_);rintro e w2 ⟨n2,t2,p2,rfl,Ab⟩;have B2:=B1.up Ab;obtain⟨d0,d1,d2,e0,e1,e2⟩:=B2.c;have z1:=B2.lt;have z2:=XI z1))
  (try simp only[Exit.inBlock,Exit.then])
  refine bodyPost_ret (v:=.tuple #[.agg #[Zh Zi 0,Zh Zi 0,.string ⟨#[]⟩],.bool Zf]) ?_ rfl ?_
  ·rw[results_cell_tmp rfl]
   go_simp
  ·exact⟨rfl,by(repeat(first|exact Up.rfl' _|(refine Up.al _ ?_) |(refine Up.dr _ ?_) |(refine Up.sZ ?_) |(refine Up.sc ?_ YH _) |(refine Up.step YN ?_)))⟩
theorem ED(s:ByteArray)(w:World)(ht:Zo w)(hs:s.size=15){a:Int}(h1:Lib.atoiAll (s.extract 0 1).data.toList=.ok a)(h2:∀v,Lib.atoiAll (s.extract 1 10).data.toList≠.ok v):Calls prog 189 #[.string s] w λe w'=>e=.returned (.tuple #[.agg #[Zh Zi 0,Zh Zi 0,.string ⟨#[]⟩],.bool Zf])/\Up w w':=by
 have hz:=CV (i:=0) (j:=1) hs;have IQ:=CV (i:=1) (j:=10) hs;have hA:=λw1=>wA (s.extract 0 1) M h1 w1
 have hB:=λw1 (hu:Up w w1)=>Bh (s.extract 1 10) M h2 w1 (xL ht hu)
 have C6:(s.size:Int)=15:=M;clear h1 h2 hz IQ
 go_enter func189,ntmps189
 go_wp2_with (first
  |(go_at_call 190;with_reducible (refine(hA _).mono ?_);rintro e w1 ⟨rfl,vJ⟩;have B1:=(Bx.new w _ _ _).up vJ)
  |(go_at_call 190;with_reducible (refine(hB _ YB).mono ?_);rintro e w2 ⟨n2,t2,p2,rfl,Ab⟩;have B2:=B1.up Ab;obtain⟨d0,d1,d2,e0,e1,e2⟩:=B2.c;have z1:=B2.lt;have z2:=XI z1))
 (try simp only[Exit.inBlock,Exit.then])
 refine bodyPost_ret (v:=.tuple #[.agg #[Zh Zi 0,Zh Zi 0,.string ⟨#[]⟩],.bool Zf]) ?_ rfl ?_
 ·rw[results_cell_tmp rfl]
  go_simp
 ·exact⟨rfl,by(repeat(first|exact Up.rfl' _|(refine Up.al _ ?_) |(refine Up.dr _ ?_) |(refine Up.sZ ?_) |(refine Up.sc ?_ YH _) |(refine Up.step YN ?_)))⟩
theorem GM(s:ByteArray)(w:World)(ht:Zo w)(hs:s.size=15){a b:Int}(h1:Lib.atoiAll (s.extract 0 1).data.toList=.ok a)(h2:Lib.atoiAll (s.extract 1 10).data.toList=.ok b){t:ByteArray}(hF:eu ⟨a,b,s.extract 10 13⟩=D t):Calls prog 189 #[.string s] w λe w'=>e=.returned (if t=s then .tuple #[.agg #[Zh Zi a,Zh Zi b,.string (s.extract 10 13)],.bool Ze]else .tuple #[.agg #[Zh Zi 0,Zh Zi 0,.string ⟨#[]⟩],.bool Zf])/\Up w w':=by
 have hz:=CV (i:=0) (j:=1) hs;have IQ:=CV (i:=1) (j:=10) hs;have hA:=λw1=>wA (s.extract 0 1) M h1 w1
 have hB:=λw1=>wA (s.extract 1 10) M h2 w1
 have hC:=λw1 (hu:Up w w1)=>F8 hF w1 (xL ht hu)
 have C6:(s.size:Int)=15:=M;clear hF h1 h2 hz IQ
 by_cases ce:t=s
 ·rw[if_pos ce]
  rw[ce]at hC
  clear ce
  go_enter func189,ntmps189
  go_wp2_with (first
   |(go_at_call 190;with_reducible (refine(hA _).mono ?_);rintro e w1 ⟨rfl,vJ⟩;have B1:=(Bx.new w _ _ _).up vJ)
   |(go_at_call 190;with_reducible (refine(hB _).mono ?_);rintro e w2 ⟨rfl,Ab⟩;have B2:=B1.up Ab;obtain⟨d0,d1,d2,e0,e1,e2⟩:=B2.c;have z1:=B2.lt;have z2:=XI z1)
   |(go_at_call 193;with_reducible (refine(hC _ YB).mono ?_);rintro e w3 ⟨rfl,hu3⟩;have B3:=(B2.AK _).up hu3;obtain⟨d0,d1,d2,e0,e1,e2⟩:=B3.c;have B4:=(Bx.new w2 _ _ _).up hu3;obtain⟨g0,g1,g2,-,-,-⟩:=B4.c))
  (try simp only[Exit.inBlock,Exit.then])
  refine bodyPost_ret (v:=.tuple #[.agg #[Zh Zi a,Zh Zi b,.string (s.extract 10 13)],.bool Ze]) ?_ rfl ?_
  ·rw[results_cell_tmp rfl]
   go_simp
  ·exact⟨rfl,by(repeat(first|exact Up.rfl' _|(refine Up.al _ ?_) |(refine Up.dr _ ?_) |(refine Up.sZ ?_) |(refine Up.sc ?_ YH _) |(refine Up.step YN ?_)))⟩
 ·rw[if_neg ce]
  have hq:=ZaM ce;clear ce
  go_enter func189,ntmps189
  go_wp2_with (first
   |(go_at_call 190;with_reducible (refine(hA _).mono ?_);rintro e w1 ⟨rfl,vJ⟩;have B1:=(Bx.new w _ _ _).up vJ)
   |(go_at_call 190;with_reducible (refine(hB _).mono ?_);rintro e w2 ⟨rfl,Ab⟩;have B2:=B1.up Ab;obtain⟨d0,d1,d2,e0,e1,e2⟩:=B2.c;have z1:=B2.lt;have z2:=XI z1)
   |(go_at_call 193;with_reducible (refine(hC _ YB).mono ?_);rintro e w3 ⟨rfl,hu3⟩;have B3:=(B2.AK _).up hu3;obtain⟨d0,d1,d2,e0,e1,e2⟩:=B3.c;have B4:=(Bx.new w2 _ _ _).up hu3;obtain⟨g0,g1,g2,-,-,-⟩:=B4.c))
  (try simp only[Exit.inBlock,Exit.then])
  refine bodyPost_ret (v:=.tuple #[.agg #[Zh Zi 0,Zh Zi 0,.string ⟨#[]⟩],.bool Zf]) ?_ rfl ?_
  ·rw[results_cell_tmp rfl]
   go_simp
  ·exact⟨rfl,by(repeat(first|exact Up.rfl' _|(refine Up.al _ ?_) |(refine Up.dr _ ?_) |(refine Up.sZ ?_) |(refine Up.sc ?_ YH _) |(refine Up.step YN ?_)))⟩
theorem ZmU{w:World}{E:Env}(r:bt×Bool):eC w E (.tu [.ag (sj r.1),vb r.2]) (.tuple #[.agg #[Zh Zi r.1.ax,Zh Zi r.1.bU,.string r.1.aZ],.bool r.2]):=by
 refine .tu _ _ rfl λj p x hp hx=>?_
 match j,hp,hx with
 |0,hp,hx=>
  obtain rfl:=VV hp;obtain rfl:=VV hx;refine .ag _ _ rfl (λj x PB=>?_) λj p x hp PB=>?_
  ·match j,PB with
   |0,h|1,h|2,h=>obtain rfl:=VV h;rfl
   |j+3,h=>grind
  ·match j,hp,PB with
   |0,hp,Gl|1,hp,Gl|2,hp,Gl=>obtain rfl:=VV Gl;obtain rfl:=VV hp;exact .c (.v _ rfl)
   |j+3,hp,_=>simp_all
 |1,hp,hx=>
  obtain rfl:=VV hp;obtain rfl:=VV hx;exact .c (.v _ rfl)
 |j+2,hp,hx=>grind
theorem AH(s:ByteArray){r:bt×Bool}(H:kB s=D r):eh prog 189 [Go.Proofs.YtbjbellffaenaaaGreatDoor.vs s] [] (.tu [.ag (sj r.1),vb r.2]) []:=by
 refine xn (λw E=>ZmU r) λS β w vs xh ht hl ha=>?_
 obtain⟨x,hx,hr1⟩:=ha 0 _ rfl;obtain rfl:=ar1 hl hx;obtain rfl:=rv1 hr1;have bad:∀{X:Prop},D (E7,Zf)=D r->(Calls prog 189 #[.string s] w λe w'=>e=.returned (.tuple #[.agg #[Zh Zi 0,Zh Zi 0,.string ⟨#[]⟩],.bool Zf])/\Up w w')->Calls prog 189 #[.string s] w λe w'=>e=.returned (.tuple #[.agg #[Zh Zi r.1.ax,Zh Zi r.1.bU,.string r.1.aZ],.bool r.2])/\Up w w':=λe h=>by
  obtain rfl:=VV e;exact h
 unfold kB at H
 by_cases hm:s.size<=100000000
 case neg=>simp_all
 rw[if_pos hm]at H
 by_cases hs:s.size=15
 ·rw[if_pos hs]at H
  by_cases h1:∃v,Lib.atoiAll (s.extract 0 1).data.toList=.ok v
  ·obtain⟨a,h1⟩:=h1
   rw[h1]at H
   by_cases h2:∃v,Lib.atoiAll (s.extract 1 10).data.toList=.ok v
   ·obtain⟨b,h2⟩:=h2
    rw[h2]at H
    simp only at H
    cases hF:eu ⟨a,b,s.extract 10 13⟩with
    |none=>simp_all
    |some t=>
     rw[hF,VR]at H
     obtain rfl:=VV H;refine(GM s w ht hs h1 h2 hF).mono λe w' ⟨h1,h2⟩=>⟨?_,h2⟩
     rw[h1]
     split<;>rfl
   ·have h2':∀v,Lib.atoiAll (s.extract 1 10).data.toList≠.ok v:=λv e=>h2 ⟨v,e⟩
    refine bad (X:=True) ?_ (ED s w ht hs h1 h2')
    simp_all
  ·have LH:∀v,Lib.atoiAll (s.extract 0 1).data.toList≠.ok v:=λv e=>h1 ⟨v,e⟩
   refine bad (X:=True) ?_ (EC s w ht hs LH)
   simp_all
 ·rw[if_neg hs]at H
  exact bad (X:=True) H (GN s w hs hm)
instance (s:ByteArray):CT prog (kB s):=⟨189,[vs s],[],λr=>.tu [.ag [Y r.1.ax,Y r.1.bU,vs r.1.aZ],vb r.2],λr=>[],AH s⟩
theorem Zgo{a b c:F UInt8}(hi:R a=i)(hj:j=i+R b):RG (K (a++b++c)) (i:Int) (j:Int)=K b:=by
 subst hi hj;unfold RG;apply W4;rw[Yc];simp only[K,Int.toNat_natCast];apply X1.1;rw[Array.toList_extract];simp[Yk]
theorem Zgy{y:Int}(h:0<=y/\y<=255):IntKind.u8.wrap y=y:=by
 simp only[IntKind.wrap,IntKind.bits,IntKind.signed,Bool.false_and,Bool.false_eq_true,if_false];omega
theorem R9:∀(k u:O),u<10 ^ (k+1)->R (Lib.decDigits u)<=k+1
 |k,u,h=>by
  rw[Lib.decDigits]
  split
  ·simp
  ·rename_i hu
   match k,h with
   |0,h=>omega
   |k+1,h=>
    have:=R9 k (u / 10) (by rw[Nat.pow_succ]at h;omega)
    simp;omega
def kE(s:ByteArray)(y2:ByteArray)(y4:bt×Bool)(y6:Int×Bool)(y8:Int×Bool)(dO:F ByteArray)(s0:Int×(F Int)):C ((Int×(F Int))⊕(F Int)):=
 G (Z (s0.1<(R dO:Int)))
 (J (az dO s0.1) λlJ=>
 J (dG lJ) λlA=>
 J (V (bn (R (s0.2:F Int)+R ([lA.1]:F Int)) 8)) λ_=>
 D (.inl ((aJ (s0.1+1)),((s0.2:F Int)++[lA.1]))))
 (D (.inr s0.2))
instance (s:ByteArray)(y2:ByteArray)(y4:bt×Bool)(y6:Int×Bool)(y8:Int×Bool)(dO:F ByteArray):bm (kE s y2 y4 y6 y8 dO):=⟨λs0=>(vs s::.un::.be 0 0 0::.un::.un::.be 1 0 0::(U 41 (.ms 3::Y (R dO:Int)::Y s0.1::(U 25 [])))),λs0=>[D ⟨.of 58,7,[[Y 0,Y 0,vs (⟨#[]⟩),vs (⟨#[]⟩),Y 0,.v (.slice Zd 0 0),Y 0]]⟩,D ⟨.of 58,7,[[Y y4.1.ax,Y y4.1.bU,vs y4.1.aZ,vs y2,Y y6.1,.ms 2,Y y8.1]]⟩,D ⟨.of 3,1,s0.2.map aW⟩,D ⟨.of 9,1,dO.map jQ⟩]⟩
def kp(s:ByteArray):C (aP×Bool):=
 J (jM s (⟨#[32]⟩)) λy1=>
 G (!decide ((R y1:Int)=5))
 (D ((⟨(⟨0,0,⟨#[]⟩⟩:bt),⟨#[]⟩,0,[],0⟩:aP),Zf))
 (J (az y1 1) λy2=>
 J (az y1 0) λy3=>
 J (kB y3) λy4=>
 J (az y1 2) λy5=>
 J (dG y5) λy6=>
 J (az y1 4) λy7=>
 J (dG y7) λy8=>
 J (az y1 3) λy9=>
 J (jM y9 (⟨#[120]⟩)) λdO=>
 (aB (kE s y2 y4 y6 y8 dO) NN (0,[])).bind (λo0=>
 G (Z (s=⟨#[]⟩))
 (D ((⟨(⟨0,0,⟨#[]⟩⟩:bt),⟨#[]⟩,0,[],0⟩:aP),Zf))
 (J (gY (⟨y4.1,y2,y6.1,o0,y8.1⟩:aP)) λqi=>
 G (!decide (qi=s))
 (D ((⟨(⟨0,0,⟨#[]⟩⟩:bt),⟨#[]⟩,0,[],0⟩:aP),Zf))
 (D ((⟨y4.1,y2,y6.1,o0,y8.1⟩:aP),Ze)))))
instance (s:ByteArray):CT prog (kp s):=⟨122,[vs s],[],λr=>.tu [.ag [Y r.1.label.ax,Y r.1.label.bU,vs r.1.label.aZ,vs r.1.ar,Y r.1.ah,.ms 0,Y r.1.value],vb r.2],λr=>[D ⟨.of 3,1,r.1.bJ.map aW⟩],cw (kp.eq_1 ..) func122 ntmps122 results122⟩
