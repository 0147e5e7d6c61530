/- A part of the proof of the statement in the last file of this claim: texts on the language of the program and on its functions. No condition. -/
import Derived.Test.YtbalgkakkoocjaaGreatCJ1
import Derived.Test.YtbalgkakkoocjaaGreatCJ4
import Derived.Test.YtbalgkakkoocjaaGreatCJ3
import Derived.Maps.OwnSet
import Derived.StringKeys
import Derived.Deep.AppendLies
import Derived.Shelf.Small.Bits
import Derived.Shelf.Strconv.Itoa0
import Derived.Shelf.Sort.Plain
import Derived.Ground.GgsProg
import Derived.Shelf.GgSortFunc.Insertion
import Derived.Shelf.GgSortFunc.InsertionK
import Derived.Shelf.GgSortFunc.Tiny
import Derived.Shelf.GgSortFunc.Compose
import Derived.Ground.GgtProg
import Derived.Shelf.GgSortMore.Stable
import Derived.Shelf.Slices.In.SortNone
import Derived.Shelf.Slices.In.SortNone2
import Derived.Test.YtbalgkakkoocjaaGreatProg
import Derived.Sort.OwnSorted
import Derived.Shelf.GgSortMore.Iface
import Derived.Sort.OwnSortedInts
set_option linter.unusedVariables false
set_option linter.unusedSimpArgs false
set_option linter.unusedSectionVars false
open Go.Value renaming int->ZF
open Go.IntKind renaming i64->ZG
open Go renaming undef->ZH
open Option renaming some->ZA,none->ZB
open Bool renaming true->ZC,false->ZD
open Decidable renaming decide->ZE
open Go.Proofs.Tryz
set_option maxHeartbeats 40000000
open List renaming foldl_cons->Wj,length_cons->VL,getElem?_map->VZ,getElem?_eq_some_iff->VH,foldl_append->X6,take_length->WA,length_pos_iff->XR,getElem?_eq_getElem->VF
open _root_.Array renaming getElem?_eq_some_iff->VQ,ext->X9
open Nat renaming le_refl->VJ,le_trans->Wb,not_lt_zero->WE,mod_lt->XM
open Option.some renaming inj->VG
open Option renaming map_eq_some_iff->VT,bind_eq_some_iff->Yt,getD_some->Ww
open Bool renaming and_eq_true->VN
namespace Go.Proofs.YtbalgkakkoocjaaGreat
set_option maxRecDepth 10000
open Go.RowKit
instance :eo ByteArray where
 cells x:=[.string x]
 k:=1
 len _:=rfl
 pos:=by decide
 one:=by simp[Value.oneCell']
theorem KY(ls:List ByteArray):flat ls=ls.map Value.string:=by
 induction ls with
 |nil=>rfl
 |cons x xs ih=>rw[xD,ih];rfl
end Go.Proofs.YtbalgkakkoocjaaGreat
namespace Go.Proofs.YtbalgkakkoocjaaGreat
set_option maxRecDepth 10000
open Go.RowKit Go.Maps Go.WideMaps
variable {Q:Exit->Act->World->Prop}{a:Act}{o:Oper}{ops:Array Oper}{rest:List Oper}
def inL(S:List ByteArray)(s:ByteArray):Bool:=S.any λy=>ZE (y=s)
theorem Vq{S:List ByteArray}{s:ByteArray}:inL S s=ZC↔s∈S:=by simp[inL]
theorem PT(S:List ByteArray)(s s':ByteArray):inL (S++[s]) s'=(inL S s' ||ZE (s=s')):=by simp[inL]
def dd(out:List ByteArray)(s:ByteArray):List ByteArray:=if inL out s=ZC then out else out++[s]
def mi(n:ak):List ByteArray:=n.aB.flatMap λl=>[l.ar,l.aX]
theorem yo{w w':World}{row:Option Nat}(h:w.grownBy w' row){b o:Nat}(hb:b<w.heap.size)(dX:ZA b≠row):w'.cell? ⟨b,o,ZB⟩=w.cell? ⟨b,o,ZB⟩:=by simp[World.cell?,h.block b hb dX]
theorem Rd.Zae{α:Type}[eo α](w:World)(T:TypeId)(x:α)(H:Nat)(hH:w.heap.size=H):Rd (w.alloc (.cells (eo.cells x).toArray T)) (H+1) (ZA ⟨H,0,ZB⟩) [x]:=by
 subst hH;exact Rd.one w T x _ (Nat.lt_succ_self _)
theorem UT{w:World}{b o:Nat}{u:Value}{ob:Obj}(h:w.cell? ⟨b,o,ZB⟩=ZA u):(w.alloc ob).cell? ⟨b,o,ZB⟩=ZA u:=
 ((Up.al ob (Up.rfl' w)).cell (p:=⟨b,o,ZB⟩) (World.block_lt_of_cell? _ _ h)).trans h
def wG(P:Program)(k e:TypeId)(w:World)(b n:Nat)(S:List ByteArray):Prop:=
 ∃D:DataW Unit,w.ownsMap P k (plainElem P e) b n D/\IsMap D/\∀s:ByteArray,D.atKey (.string s.data.toList) (.lit (.bool ZD))=.lit (.bool (inL S s))
section
variable {P:Program} {k e:TypeId} {w:World} {b n:Nat} {S:List ByteArray}
theorem wG.aT(w:World):wG P k e (w.alloc (.map #[] 0)) w.heap.size 0 []:=
 ⟨_,World.ownsMap_made w P k _,isMap_empty,λs=>by simp[DataW.atKey,inL]⟩
theorem wG.kept{w':World}{row:Option Nat}(h:wG P k e w b n S)(hg:w.grownBy w' row)(dX:ZA b≠row):wG P k e w' b n S:=by
 obtain⟨D,h1,h2⟩:=h;exact⟨D,h1.kept hg dX,h2⟩
theorem wG.alloc(h:wG P k e w b n S)(o:Obj):wG P k e (w.alloc o) b n S:=by
 obtain⟨D,h1,h2⟩:=h;exact⟨D,h1.alloc o,h2⟩
theorem wG.setCell(h:wG P k e w b n S){a:Addr}(ha:b≠a.block)(u:Value):wG P k e (w.setCell a u) b n S:=by
 obtain⟨D,h1,h2⟩:=h;exact⟨D,h1.setCell ha u,h2⟩
theorem wG.mono(h:wG P k e w b n S){n':Nat}(hn:n<=n'):wG P k e w b n' S:=by
 obtain⟨D,h1,h2⟩:=h;exact⟨D,h1.mono hn,h2⟩
theorem wG.lt(h:wG P k e w b n S):b<w.heap.size:=by obtain⟨D,h1,_⟩:=h;exact h1.lt
theorem Zh4{a b:Bool}(h:(DataW.lit (.bool a):DataW Unit)=.lit (.bool b)):a=b:=by simpa using h
theorem ZdB(he:P.underlying e=ZA .bool){v:Value}{z:DataW Unit×List MemPlace}(h:plainElem P e v=ZA z):∃c,v=.bool c/\z=(.lit (.bool c),[]):=by
 unfold plainElem at h
 rw[he]at h
 cases v<;>simp at h
 exact⟨_,rfl,h.symm⟩
theorem fN(w:World)
 (hg:o.guard=ZB) (m x:Operand) (t:TypeId) (hop:o.op=Op.lookup t m x ZD)
 (k e:TypeId) (hk:P.underlying k=ZA .string) (ht:P.underlying t=ZA (.map k e)) (he:P.underlying e=ZA .bool) (hz:∀w,(zeroValue e).run P w=.ok (.bool ZD) w) (b n:Nat) (S:List ByteArray)
 (hm:a.eval m=.map (ZA b)) (sA:wG P k e w b n S) (s:ByteArray) (hx:a.eval x=.string s) (hs:s.size<=maxLen) (c:Bool) (hc:inL S s=c)
 (hK:wpList P ops Q rest (a.put o.dst (.bool c)) w):
 wpList P ops Q (o::rest) a w:=by
 refine wpList_plain hg λK' hK'=>?_
 subst hc;obtain⟨D,h1,h2,h3⟩:=sA;obtain⟨v,ps,kn,hv⟩:=h1.lookup (string_keyed hk) ht (hz w) (plainElem_bool he ZD) (keyOf_string_mk hk hs);obtain⟨c,rfl,hc⟩:=ZdB he hv;simp only[Prod.mk.injEq]at hc
 have Gf:c=inL S s:=Zh4 (hc.1.symm.trans (h3 s));subst Gf;unfold Oper.wp;simp[execOp,hop,hm,hx,kn,Result.andThen];exact hK' _ _ hK
theorem pw(w:World)
 (hg:o.guard=ZB) (m x v:Operand) (t:TypeId) (hop:o.op=Op.mapUpdate t m x v)
 (k e:TypeId) (hk:P.underlying k=ZA .string) (ht:P.underlying t=ZA (.map k e)) (he:P.underlying e=ZA .bool) (b n:Nat) (S:List ByteArray)
 (hm:a.eval m=.map (ZA b)) (sA:wG P k e w b n S) (hn:n<maxLen) (s:ByteArray) (hx:a.eval x=.string s) (hv:a.eval v=.bool ZC) (hs:s.size<=maxLen)
 (hK:∀w',wG P k e w' b (n+1) (S++[s])->w.grownBy w' (ZA b)->wpList P ops Q rest (a.put o.dst ZH) w'):
 wpList P ops Q (o::rest) a w:=by
 refine wpList_plain hg λK' hK'=>?_
 obtain⟨D,h1,h2,h3⟩:=sA;obtain⟨w',kn,r1,r2⟩:=h1.update (string_keyed hk) ht hn (keyOf_string_mk hk hs) (plainElem_bool (H:=Unit) he ZC);unfold Oper.wp;simp[execOp,hop,hm,hx,hv,kn,Result.andThen];refine hK' _ _ (hK w' ⟨_,r1,h2.put _ _,λs'=>?_⟩ r2)
 by_cases e:s'=s
 ·subst e
  rw[atKey_put_same h2 (by simp[WideAt.IsKeyLit])]
  rw[PT];simp
 ·rw[atKey_put_other (by intro h;simp at h;exact e (by obtain⟨⟨x⟩⟩:=s';obtain⟨⟨y⟩⟩:=s;simpa using h)),h3 s',PT,Yz (λh=>e h.symm),Bool.or_false]
end
end Go.Proofs.YtbalgkakkoocjaaGreat
namespace Go.Proofs
open Go.Proofs.YtbalgkakkoocjaaGreat(YK)
open Go.Shelf
def Tryz.Qa:Go.Shelf.Ren:=⟨λ|125=>327|128=>356|129=>357|n=>n,λ|46=>277|3=>3|51=>360|53=>362|4=>4|5=>5|9=>9|n=>n,λ|n=>n⟩
theorem Tryz.ZhZ:Go.Proofs.Lays.n125 prog Tryz.Qa:={
 mixed:=by kernel_rfl
 f125:=func327.trans (congrArg ZA YK)
 f128:=func356.trans (congrArg ZA YK)
 f129:=func357.trans (congrArg ZA YK)
 t3:=Tryz.underlying3
 a3:=Tryz.isAgg3
 z3:=Tryz.sizeOf3
 v3:=Tryz.zeroValue3
 t4:=Tryz.underlying4
 a4:=Tryz.isAgg4
 z4:=Tryz.sizeOf4
 v4:=Tryz.zeroValue4
 t5:=Tryz.underlying5
 a5:=Tryz.isAgg5
 z5:=Tryz.sizeOf5
 v5:=Tryz.zeroValue5
 t9:=Tryz.underlying9
 a9:=Tryz.isAgg9
 z9:=Tryz.sizeOf9
 v9:=Tryz.zeroValue9
 t46:=Tryz.underlying277
 a46:=Tryz.isAgg277
 z46:=Tryz.sizeOf277
 v46:=Tryz.zeroValue277
 t51:=Tryz.underlying360
 a51:=Tryz.isAgg360
 z51:=Tryz.sizeOf360
 v51:=Tryz.zeroValue360
 t53:=Tryz.underlying362
 a53:=Tryz.isAgg362
 z53:=Tryz.sizeOf362
 v53:=Tryz.zeroValue362}
theorem Tryz.bits_Len(x:Int)(w:World)(h0:0<=x)(h1:x<=18446744073709551615):
 Calls prog 327 #[.int .u64 x] w λe w'=>e=.returned (ZF ZG (Lib.bitLen x.toNat))/\w'=w:=Any.bits_Len Tryz.ZhZ x w h0 h1
def Tryz.Qb:Go.Shelf.Ren:=⟨λ|192=>267|190=>309|125=>327|258=>326|128=>356|129=>357|302=>347|303=>348|304=>349|305=>350|306=>351|307=>352|308=>353|309=>354|310=>355|333=>370|329=>371|330=>372|334=>373|335=>374|336=>375|344=>382|n=>n,λ|31=>217|0=>0|9=>9|3=>3|46=>277|51=>360|53=>362|4=>4|183=>353|182=>352|131=>156|5=>5|218=>372|222=>376|228=>381|229=>382|n=>n,λ|n=>n⟩
theorem Tryz.Zh0:Go.Proofs.Lays.n192 prog Tryz.Qb:={
 mixed:=by kernel_rfl
 f125:=func327.trans (congrArg ZA YK)
 f128:=func356.trans (congrArg ZA YK)
 f129:=func357.trans (congrArg ZA YK)
 f190:=func309.trans (congrArg ZA YK)
 f192:=func267.trans (congrArg ZA YK)
 f258:=func326.trans (congrArg ZA YK)
 f302:=func347.trans (congrArg ZA YK)
 f303:=func348.trans (congrArg ZA YK)
 f304:=func349.trans (congrArg ZA YK)
 f305:=func350.trans (congrArg ZA YK)
 f306:=func351.trans (congrArg ZA YK)
 f307:=func352.trans (congrArg ZA YK)
 f308:=func353.trans (congrArg ZA YK)
 f309:=func354.trans (congrArg ZA YK)
 f310:=func355.trans (congrArg ZA YK)
 f329:=func371.trans (congrArg ZA YK)
 f330:=func372.trans (congrArg ZA YK)
 f333:=func370.trans (congrArg ZA YK)
 f334:=func373.trans (congrArg ZA YK)
 f335:=func374.trans (congrArg ZA YK)
 f336:=func375.trans (congrArg ZA YK)
 f344:=func382.trans (congrArg ZA YK)
 t0:=Tryz.underlying0
 a0:=Tryz.isAgg0
 z0:=Tryz.sizeOf0
 v0:=Tryz.zeroValue0
 t3:=Tryz.underlying3
 a3:=Tryz.isAgg3
 z3:=Tryz.sizeOf3
 v3:=Tryz.zeroValue3
 t4:=Tryz.underlying4
 a4:=Tryz.isAgg4
 z4:=Tryz.sizeOf4
 v4:=Tryz.zeroValue4
 t5:=Tryz.underlying5
 a5:=Tryz.isAgg5
 z5:=Tryz.sizeOf5
 v5:=Tryz.zeroValue5
 t9:=Tryz.underlying9
 a9:=Tryz.isAgg9
 z9:=Tryz.sizeOf9
 v9:=Tryz.zeroValue9
 t31:=Tryz.underlying217
 a31:=Tryz.isAgg217
 z31:=Tryz.sizeOf217
 v31:=Tryz.zeroValue217
 t46:=Tryz.underlying277
 a46:=Tryz.isAgg277
 z46:=Tryz.sizeOf277
 v46:=Tryz.zeroValue277
 t51:=Tryz.underlying360
 a51:=Tryz.isAgg360
 z51:=Tryz.sizeOf360
 v51:=Tryz.zeroValue360
 t53:=Tryz.underlying362
 a53:=Tryz.isAgg362
 z53:=Tryz.sizeOf362
 v53:=Tryz.zeroValue362
 t131:=Tryz.underlying156
 a131:=Tryz.isAgg156
 z131:=Tryz.sizeOf156
 v131:=Tryz.zeroValue156
 t182:=Tryz.underlying352
 a182:=Tryz.isAgg352
 z182:=Tryz.sizeOf352
 v182:=Tryz.zeroValue352
 t183:=Tryz.underlying353
 a183:=Tryz.isAgg353
 z183:=Tryz.sizeOf353
 v183:=Tryz.zeroValue353
 t218:=Tryz.underlying372
 a218:=Tryz.isAgg372
 z218:=Tryz.sizeOf372
 v218:=Tryz.zeroValue372
 t222:=Tryz.underlying376
 a222:=Tryz.isAgg376
 z222:=Tryz.sizeOf376
 v222:=Tryz.zeroValue376
 t228:=Tryz.underlying381
 a228:=Tryz.isAgg381
 z228:=Tryz.sizeOf381
 v228:=Tryz.zeroValue381
 t229:=Tryz.underlying382
 a229:=Tryz.isAgg382
 z229:=Tryz.sizeOf382
 v229:=Tryz.zeroValue382}
open Go.Sort Go.RowKit in
theorem Tryz.sort_Strings(ou off cap:Nat)(ss:List (List UInt8))(w:World)(hH:Holds encStr w ou off ss.toArray)(CY:ou<w.heap.size)(uV:ss.length<4611686018427387904):
 Calls prog 267 #[.slice (ZA ⟨ou,off,ZB⟩) ss.length cap] w λe w'=>
  e=.returned (.tuple #[])/\∃n os,w'=grow (putRow encStr (Sort.ahead w n) ou off (ss.mergeSort λx y=>ZE (x<=y)).toArray) os:=Any.sort_Strings Tryz.Zh0 ou off cap ss w hH CY uV
def Tryz.zy:Go.Shelf.Ren:=⟨λ|8=>275|13=>315|14=>316|16=>318|15=>317|29=>339|30=>340|42=>366|49=>381|n=>n,λ|20=>20|26=>295|36=>323|0=>0|38=>325|42=>329|3=>3|4=>4|47=>277|17=>17|33=>320|34=>321|89=>399|12=>12|56=>360|82=>392|5=>5|83=>393|84=>394|85=>395|86=>396|87=>397|n=>n,λ|n=>n⟩
theorem Tryz.M1:Go.Proofs.LaysGt.n8 prog Tryz.zy:={
 mixed:=by kernel_rfl
 f8:=func275.trans (congrArg ZA YK)
 f13:=func315.trans (congrArg ZA YK)
 f14:=func316.trans (congrArg ZA YK)
 f15:=func317.trans (congrArg ZA YK)
 f16:=func318.trans (congrArg ZA YK)
 f29:=func339.trans (congrArg ZA YK)
 f30:=func340.trans (congrArg ZA YK)
 f42:=func366.trans (congrArg ZA YK)
 f49:=func381.trans (congrArg ZA YK)
 t0:=Tryz.underlying0
 a0:=Tryz.isAgg0
 z0:=Tryz.sizeOf0
 v0:=Tryz.zeroValue0
 i0:=by kernel_rfl
 t3:=Tryz.underlying3
 a3:=Tryz.isAgg3
 z3:=Tryz.sizeOf3
 v3:=Tryz.zeroValue3
 i3:=by kernel_rfl
 t4:=Tryz.underlying4
 a4:=Tryz.isAgg4
 z4:=Tryz.sizeOf4
 v4:=Tryz.zeroValue4
 i4:=by kernel_rfl
 t5:=Tryz.underlying5
 a5:=Tryz.isAgg5
 z5:=Tryz.sizeOf5
 v5:=Tryz.zeroValue5
 i5:=by kernel_rfl
 t12:=Tryz.underlying12
 a12:=Tryz.isAgg12
 z12:=Tryz.sizeOf12
 v12:=Tryz.zeroValue12
 i12:=by kernel_rfl
 t17:=Tryz.underlying17
 a17:=Tryz.isAgg17
 z17:=Tryz.sizeOf17
 v17:=Tryz.zeroValue17
 i17:=by kernel_rfl
 t20:=Tryz.underlying20
 a20:=Tryz.isAgg20
 z20:=Tryz.sizeOf20
 v20:=Tryz.zeroValue20
 i20:=by kernel_rfl
 t26:=Tryz.underlying295
 a26:=Tryz.isAgg295
 z26:=Tryz.sizeOf295
 v26:=Tryz.zeroValue295
 i26:=by kernel_rfl
 t33:=Tryz.underlying320
 a33:=Tryz.isAgg320
 z33:=Tryz.sizeOf320
 v33:=Tryz.zeroValue320
 i33:=by kernel_rfl
 t34:=Tryz.underlying321
 a34:=Tryz.isAgg321
 z34:=Tryz.sizeOf321
 v34:=Tryz.zeroValue321
 i34:=by kernel_rfl
 t36:=Tryz.underlying323
 a36:=Tryz.isAgg323
 z36:=Tryz.sizeOf323
 v36:=Tryz.zeroValue323
 i36:=by kernel_rfl
 t38:=Tryz.underlying325
 a38:=Tryz.isAgg325
 z38:=Tryz.sizeOf325
 v38:=Tryz.zeroValue325
 i38:=by kernel_rfl
 t42:=Tryz.underlying329
 a42:=Tryz.isAgg329
 z42:=Tryz.sizeOf329
 v42:=Tryz.zeroValue329
 i42:=by kernel_rfl
 t47:=Tryz.underlying277
 a47:=Tryz.isAgg277
 z47:=Tryz.sizeOf277
 v47:=Tryz.zeroValue277
 i47:=by kernel_rfl
 t56:=Tryz.underlying360
 a56:=Tryz.isAgg360
 z56:=Tryz.sizeOf360
 v56:=Tryz.zeroValue360
 i56:=by kernel_rfl
 t82:=Tryz.underlying392
 a82:=Tryz.isAgg392
 z82:=Tryz.sizeOf392
 v82:=Tryz.zeroValue392
 i82:=by kernel_rfl
 t83:=Tryz.underlying393
 a83:=Tryz.isAgg393
 z83:=Tryz.sizeOf393
 v83:=Tryz.zeroValue393
 i83:=by kernel_rfl
 t84:=Tryz.underlying394
 a84:=Tryz.isAgg394
 z84:=Tryz.sizeOf394
 v84:=Tryz.zeroValue394
 i84:=by kernel_rfl
 t85:=Tryz.underlying395
 a85:=Tryz.isAgg395
 z85:=Tryz.sizeOf395
 v85:=Tryz.zeroValue395
 i85:=by kernel_rfl
 t86:=Tryz.underlying396
 a86:=Tryz.isAgg396
 z86:=Tryz.sizeOf396
 v86:=Tryz.zeroValue396
 i86:=by kernel_rfl
 t87:=Tryz.underlying397
 a87:=Tryz.isAgg397
 z87:=Tryz.sizeOf397
 v87:=Tryz.zeroValue397
 i87:=by kernel_rfl
 t89:=Tryz.underlying399
 a89:=Tryz.isAgg399
 z89:=Tryz.sizeOf399
 v89:=Tryz.zeroValue399
 i89:=by kernel_rfl}
end Go.Proofs
namespace Go.Proofs.YtbalgkakkoocjaaGreat
set_option maxRecDepth 10000
open Go.RowKit
def JK(xs:List ByteArray):List ByteArray:=((xs.map λb:ByteArray=>b.data.toList).mergeSort λx y=>ZE (x<=y)).map λl=>⟨l.toArray⟩
theorem Rs(xs:List ByteArray):(JK xs).length=xs.length:=by simp[JK]
end Go.Proofs.YtbalgkakkoocjaaGreat
namespace Go.Proofs.YtbalgkakkoocjaaGreat
set_option maxRecDepth 10000
open Go.RowKit Go.Maps Go.WideMaps Go.Sort
variable {i:Nat}{x:bM}
instance :eo bM where
 cells x:=[.string x.ar,.string x.aX,I x.start,I x.oS,I x.AW,I x.jl]
 k:=6
 len _:=rfl
 pos:=by decide
 one:=by simp[Value.oneCell',I]
theorem Rd.bG{w:World}{B:Nat}{A:Option Addr}{xs:List bM}(h:Rd w B A xs)(hx:xs[i]?=ZA x):
 ∃b off,A=ZA ⟨b,off,ZB⟩/\b<B/\w.cell? ⟨b,off+i*6,ZB⟩=ZA (.string x.ar)/\w.cell? ⟨b,off+i*6+1,ZB⟩=ZA (.string x.aX)/\w.cell? ⟨b,off+i*6+2,ZB⟩=ZA (I x.start)/\w.cell? ⟨b,off+i*6+3,ZB⟩=ZA (I x.oS)/\w.cell? ⟨b,off+i*6+4,ZB⟩=ZA (I x.AW)/\w.cell? ⟨b,off+i*6+5,ZB⟩=ZA (I x.jl):=by
 obtain⟨b,off,e,hb,hc⟩:=h.aO hx;exact⟨b,off,e,hb,hc 0 _ rfl,hc 1 _ rfl,hc 2 _ rfl,hc 3 _ rfl,hc 4 _ rfl,hc 5 _ rfl⟩
theorem ZeX:(prog.info? 9).map (λi=>(i.zero,i.size,i.bytes))=ZA (ZA (Value.string ⟨#[]⟩),1,16):=by kernel_rfl
theorem Mp:ElT prog 217 9 (eo.k ByteArray) 16:=ElT.mk' Tryz.underlying217 ZeX rfl
theorem sx(w:World):(zeroValue 4).run prog w=.ok (.bool ZD) w:=by kernel_rfl
def xn(aB:List bM)(i:Nat):List ByteArray:=(aB.take i).foldl (λout l=>dd (dd out l.ar) l.aX) []
theorem ZfB{aB:List bM}(hx:aB[i]?=ZA x):xn aB (i+1)=dd (dd (xn aB i) x.ar) x.aX:=by
 unfold xn;rw[SK hx]
theorem Zd3(out:List ByteArray)(s:ByteArray):(dd out s).length<=out.length+1:=by unfold dd;split<;>simp
theorem VD(aB:List bM)(i:Nat):(xn aB i).length<=2*i:=by
 have h:∀(b:List bM) (out:List ByteArray),(b.foldl (λout l=>dd (dd out l.ar) l.aX) out).length<=out.length+2*b.length:=by
  intro b
  induction b with
  |nil=>intro out;simp
  |cons x b ih=>
   intro out;have h1:=ih (dd (dd out x.ar) x.aX);have h2:=Zd3 (dd out x.ar) x.aX;have h3:=Zd3 out x.ar;simp only[Wj,VL];omega
 have h1:=h (aB.take i) [];have h2:(aB.take i).length<=i:=List.length_take_le _ _;simp only[List.length_nil]at h1
 unfold xn;omega
theorem Rn(g cp n B:Nat)(zs:List ByteArray)(w:World)(ho:Own w B 9 (.slice (ZA ⟨g,0,ZB⟩) n cp) zs)(hl:n=zs.length)(hn:n<=4194304):
 Calls prog 267 #[.slice (ZA ⟨g,0,ZB⟩) n cp] w λe w'=>e=.returned (.tuple #[])/\Own w' B 9 (.slice (ZA ⟨g,0,ZB⟩) n cp) (JK zs)/\w.grownBy w' (ZA g):=by
 subst hl
 rcases ho.2 with⟨h0,_⟩ |⟨g',Zov,cur,hv,hB,hg,xt,Kd,gl,ht⟩
 ·cases h0
 ·obtain⟨rfl,rfl⟩:g=g'/\cp=Zov:=by simpa using hv
  have hss:(zs.map λb:ByteArray=>b.data.toList).length=zs.length:=by simp
  have Lb:cur.toList.take (zs.map λb:ByteArray=>b.data.toList).length=(zs.map λb:ByteArray=>b.data.toList).map encStr:=by
   have:=ht;rw[show eo.k ByteArray=1 from rfl,Nat.mul_one,KY]at this
   rw[hss,this,List.map_map];apply List.map_congr_left;intro b _;rfl
  have hH:=holds_of_block hg Lb;have key:=Tryz.sort_Strings g 0 cp _ w hH (VQ.1 hg).1 (by rw[hss];omega)
  rw[hss]at key
  refine key.mono ?_;rintro e w' ⟨rfl,m,os,rfl⟩;have hs:=ownsRow_sorted (n:=m) (os:=os) (ss:=zs.map λb:ByteArray=>b.data.toList) (ts:=(zs.map λb:ByteArray=>b.data.toList).mergeSort λx y=>ZE (x<=y)) YJ hB hg (by simpa using xt) Kd gl
  refine⟨rfl,?_,grownBy_sorted _⟩;unfold Own;rw[Rs,KY];rw[hss]at hs
  have e2:(JK zs).map Value.string=((zs.map λb:ByteArray=>b.data.toList).mergeSort λx y=>ZE (x<=y)).map encStr:=by
   unfold JK;rw[List.map_map];rfl
  rw[e2];exact hs
set_option maxRecDepth 100000 in
theorem QN(A:Option Addr)(aB:List bM)(n c:Nat)(v2 v3:Value)(w:World)(hr:Rd w w.heap.size A aB)(hl:n=aB.length)(hc:aB.length<=c)(hn:n<=1048576)(hs:∀l∈aB,l.ar.size<=maxLen/\l.aX.size<=maxLen):
 Calls prog 190 #[.agg #[.slice A n c,v2,v3]] w λe w'=>∃v,e=.returned v/\Own w' w.heap.size 9 v (JK (xn aB aB.length))/\Up w w':=by
 subst hl;have hmm:=@run_makeMap prog
 go_enter func190,ntmps190
 go_wp2
 go_loopw [4,14] (λv i wr=>∃j g cp:Nat,j<=aB.length/\i=ZF ZG j/\v=.slice (ZA ⟨g,0,ZB⟩) (xn aB j).length cp/\Own wr (w.heap.size+2) 9 (.slice (ZA ⟨g,0,ZB⟩) (xn aB j).length cp) (xn aB j)/\wG prog 9 4 wr (w.heap.size+1) (2*j) (xn aB j)/\Up w wr) (λ_ i _=>aB.length-(intOf i).toNat)
 case atStart=>exact⟨0,w.heap.size+1+1,0,YG,rfl,rfl,by have h_:=Own.empty (α:=ByteArray) ((w.alloc (.cells #[.slice A aB.length c,v2,v3] 27)).alloc (.map #[] 0)) (w.heap.size+2) 9 0 #[] YJ Y6 rfl;simpa[xn]using h_,by have h_:=(wG.aT (P:=prog) (k:=9) (e:=4) (w.alloc (.cells #[.slice A aB.length c,v2,v3] 27))).alloc (.cells #[] 9);simpa[xn]using h_,by(repeat(first|exact Up.rfl' _|(refine Up.al _ ?_) |(refine Up.dr _ ?_) |(refine Up.pE ?_) |(refine Up.sc ?_ YL _) |(refine Up.step YO ?_)))⟩
 case round=>
  obtain⟨i,g3,c3',hi,rfl,rfl,ho,Dc,hb⟩:=hrel
  by_cases bO:i<aB.length
  ·obtain⟨x,hx⟩:=ZbH bO
   obtain⟨b,off,rfl,hbb,c0,c1,c2,c3,c4,c5⟩:=(hr.below hb).bG hx;have hlen:=VD aB i;obtain⟨MR,GX⟩:=hs x (List.mem_of_getElem? hx);have xH:=World.ownsRow.lt ho g3 rfl;have HO:=Lib.hid ho;have HS:=Lib.hid Dc;clear ho Dc
   go_wp2_with fail
   generalize Bw:(wr.alloc _).alloc _=wb;have d0:wb.cell? ⟨wr.heap.size+1,0,ZB⟩=ZA (.string x.ar):=by rw[<-Bw];simp[go_sem]
   have d1:wb.cell? ⟨wr.heap.size+1,1,ZB⟩=ZA (.string x.aX):=by rw[<-Bw];simp[go_sem]
   have wJ:Up wr wb:=by rw[<-Bw];(repeat(first|exact Up.rfl' _|(refine Up.al _ ?_) |(refine Up.dr _ ?_) |(refine Up.pE ?_) |(refine Up.sc ?_ YL _) |(refine Up.step YO ?_)))
   have uV:wr.heap.size+2<=wb.heap.size:=by rw[<-Bw];simp
   have GI:Hid (wG prog 9 4 wb (w.heap.size+1) (2*i) (xn aB i)):=Lib.hid (by rw[<-Bw];exact(HS.out.alloc _).alloc _)
   have HO0:=Lib.hid (HO.out.up wJ);have Bq:Up w wb:=Up.step wJ hb;clear Bw c0 c1 c2 c3 c4 c5 HS HO;have hw0:=hb.size;have hx1:=ZfB hx;have SO:=Bq
   cases h1:inL (xn aB i) x.ar with
   |false=>
    cases h2:inL (xn aB i++[x.ar]) x.aX with
    |false=>
     refine wp_loop_rounds 3 ?_
     iterate 3 (rw[rounds_succ];go_wp2_with (first|(at_builtin;(have MQ:=HP2.out);go_loud (refine kA Mp rfl (.tmp 34) (.tmp 36) rfl (base:=w.heap.size+2) (ys:=(xn aB i++[x.ar])) (xs:=[x.aX]) Zj (MQ.up YH) 1 Zj rfl (Rd.Zae _ _ (x.aX) _ YJ) YR Zd YR ?_);intro v2 w2 IU vP _ hu_;go_loud (have R6:=Lib.hid ((HT2.out.alloc _).kept vP YZ);have Of:Up w w2:=Below.grown (Up.al _ hd2) vP YR (λk e=>by have h_:=World.ownsRow.lt MQ _ e;omega);have ZpF:w2a.heap.size+1<=w2.heap.size:=Ze;have HO2:=Lib.hid IU);clear IU MQ vP hu_ HT2 HP2) |(at_mapUpdate;(have h_:=HS1.out);go_loud (refine pw _ rfl _ _ _ 286 rfl 9 4 Tryz.underlying9 Tryz.underlying286 Tryz.underlying4 (w.heap.size+1) (2*i+1) (xn aB i++[x.ar]) rfl HS1.out Y6 _ rfl rfl GX ?_);intro w2a hs_ vP;go_loud (have HT2:=Lib.hid hs_;clear hs_;have HP2:=Lib.hid (HO1.out.grown vP (.inr (by intro hh;have h_:=World.ownsRow.lt HO1.out _ hh;omega)));have hd2:Up w w2a:=Below.grown Kc vP Kc.size (λk e=>by cases e;omega);have hz2:=vP.size;have hp2:=Wb Kc.size vP.size);clear vP) |(at_lookup;have h_:=HS1.out;(refine fN _ rfl _ _ 286 rfl 9 4 Tryz.underlying9 Tryz.underlying286 Tryz.underlying4 sx (w.heap.size+1) (2*i+1) (xn aB i++[x.ar]) rfl HS1.out _ rfl GX _ h2 ?_)) |(at_builtin;(have MQ:=HP1.out);go_loud (refine kA Mp rfl (.tmp 34) (.tmp 36) rfl (base:=w.heap.size+2) (ys:=(xn aB i)) (xs:=[x.ar]) Zj (MQ.up YH) 1 Zj rfl (Rd.Zae _ _ (x.ar) _ YJ) YR Zd YR ?_);intro v1 w1 MP vP _ hu_;go_loud (have HS1:=Lib.hid ((HT1.out.alloc _).kept vP YZ);have Kc:Up w w1:=Below.grown (Up.al _ hd1) vP YR (λk e=>by have h_:=World.ownsRow.lt MQ _ e;omega);have d2:=(yo vP YR Zm).trans (UT dz1);have ZpE:w1a.heap.size+1<=w1.heap.size:=Ze;have HO1:=Lib.hid MP);clear MP MQ vP hu_ HT1 HP1) |(at_mapUpdate;(have h_:=GI.out);go_loud (refine pw _ rfl _ _ _ 286 rfl 9 4 Tryz.underlying9 Tryz.underlying286 Tryz.underlying4 (w.heap.size+1) (2*i) (xn aB i) rfl GI.out Y6 _ rfl rfl MR ?_);intro w1a hs_ vP;go_loud (have HT1:=Lib.hid hs_;clear hs_;have HP1:=Lib.hid (HO0.out.grown vP (.inr Za));have hd1:Up w w1a:=Below.grown SO vP SO.size (λk e=>by cases e;omega);have hz1:=vP.size;have dz1:=(yo vP YG (by intro hh;injection hh with hh;omega)).trans d1;have hp1:=Wb SO.size vP.size);clear vP) |(at_lookup;have h_:=GI.out;(refine fN _ rfl _ _ 286 rfl 9 4 Tryz.underlying9 Tryz.underlying286 Tryz.underlying4 sx (w.heap.size+1) (2*i) (xn aB i) rfl GI.out _ rfl MR _ h1 ?_))))
     have yq:xn aB (i+1)=(xn aB i++[x.ar]++[x.aX]):=by rw[hx1];simp[dd,h1,h2]
     have hoF:=HO2.out;obtain⟨g4,c4,hv4,_⟩:=World.ownsRow.form hoF YJ;exact⟨⟨i+1,g4,c4,YG,by go_num,by rw[yq];exact hv4,by rw[yq,<-hv4];exact hoF,by rw[yq];exact R6.out.mono YG,Of⟩,by simp[intOf];omega⟩
    |true=>
     refine wp_loop_rounds 3 ?_
     iterate 3 (rw[rounds_succ];go_wp2_with (first|(at_lookup;have h_:=HS1.out;(refine fN _ rfl _ _ 286 rfl 9 4 Tryz.underlying9 Tryz.underlying286 Tryz.underlying4 sx (w.heap.size+1) (2*i+1) (xn aB i++[x.ar]) rfl HS1.out _ rfl GX _ h2 ?_)) |(at_builtin;(have MQ:=HP1.out);go_loud (refine kA Mp rfl (.tmp 34) (.tmp 36) rfl (base:=w.heap.size+2) (ys:=(xn aB i)) (xs:=[x.ar]) Zj (MQ.up YH) 1 Zj rfl (Rd.Zae _ _ (x.ar) _ YJ) YR Zd YR ?_);intro v1 w1 MP vP _ hu_;go_loud (have HS1:=Lib.hid ((HT1.out.alloc _).kept vP YZ);have Kc:Up w w1:=Below.grown (Up.al _ hd1) vP YR (λk e=>by have h_:=World.ownsRow.lt MQ _ e;omega);have d2:=(yo vP YR Zm).trans (UT dz1);have ZpE:w1a.heap.size+1<=w1.heap.size:=Ze;have HO1:=Lib.hid MP);clear MP MQ vP hu_ HT1 HP1) |(at_mapUpdate;(have h_:=GI.out);go_loud (refine pw _ rfl _ _ _ 286 rfl 9 4 Tryz.underlying9 Tryz.underlying286 Tryz.underlying4 (w.heap.size+1) (2*i) (xn aB i) rfl GI.out Y6 _ rfl rfl MR ?_);intro w1a hs_ vP;go_loud (have HT1:=Lib.hid hs_;clear hs_;have HP1:=Lib.hid (HO0.out.grown vP (.inr Za));have hd1:Up w w1a:=Below.grown SO vP SO.size (λk e=>by cases e;omega);have hz1:=vP.size;have dz1:=(yo vP YG (by intro hh;injection hh with hh;omega)).trans d1;have hp1:=Wb SO.size vP.size);clear vP) |(at_lookup;have h_:=GI.out;(refine fN _ rfl _ _ 286 rfl 9 4 Tryz.underlying9 Tryz.underlying286 Tryz.underlying4 sx (w.heap.size+1) (2*i) (xn aB i) rfl GI.out _ rfl MR _ h1 ?_))))
     have yq:xn aB (i+1)=(xn aB i++[x.ar]):=by rw[hx1];simp[dd,h1,h2]
     have hoF:=HO1.out;obtain⟨g4,c4,hv4,_⟩:=World.ownsRow.form hoF YJ;exact⟨⟨i+1,g4,c4,YG,by go_num,by rw[yq];exact hv4,by rw[yq,<-hv4];exact hoF,by rw[yq];exact HS1.out.mono YG,Kc⟩,by simp[intOf];omega⟩
   |true=>
    cases h2:inL (xn aB i) x.aX with
    |false=>
     refine wp_loop_rounds 3 ?_
     iterate 3 (rw[rounds_succ];go_wp2_with (first|(at_lookup;have h_:=GI.out;(refine fN _ rfl _ _ 286 rfl 9 4 Tryz.underlying9 Tryz.underlying286 Tryz.underlying4 sx (w.heap.size+1) (2*i) (xn aB i) rfl GI.out _ rfl MR _ h1 ?_)) |(at_lookup;have h_:=GI.out;(refine fN _ rfl _ _ 286 rfl 9 4 Tryz.underlying9 Tryz.underlying286 Tryz.underlying4 sx (w.heap.size+1) (2*i) (xn aB i) rfl GI.out _ rfl GX _ h2 ?_)) |(at_mapUpdate;(have h_:=GI.out);go_loud (refine pw _ rfl _ _ _ 286 rfl 9 4 Tryz.underlying9 Tryz.underlying286 Tryz.underlying4 (w.heap.size+1) (2*i) (xn aB i) rfl GI.out Y6 _ rfl rfl GX ?_);intro w2a hs_ vP;go_loud (have HT2:=Lib.hid hs_;clear hs_;have HP2:=Lib.hid (HO0.out.grown vP (.inr Za));have hd2:Up w w2a:=Below.grown SO vP SO.size (λk e=>by cases e;omega);have hz2:=vP.size;have hp2:=Wb SO.size vP.size);clear vP) |(at_builtin;(have MQ:=HP2.out);go_loud (refine kA Mp rfl (.tmp 34) (.tmp 36) rfl (base:=w.heap.size+2) (ys:=(xn aB i)) (xs:=[x.aX]) Zj (MQ.up YH) 1 Zj rfl (Rd.Zae _ _ (x.aX) _ YJ) YR Zd YR ?_);intro v2 w2 IU vP _ hu_;go_loud (have R6:=Lib.hid ((HT2.out.alloc _).kept vP YZ);have Of:Up w w2:=Below.grown (Up.al _ hd2) vP YR (λk e=>by have h_:=World.ownsRow.lt MQ _ e;omega);have ZpF:w2a.heap.size+1<=w2.heap.size:=Ze;have HO2:=Lib.hid IU);clear IU MQ vP hu_ HT2 HP2)))
     have yq:xn aB (i+1)=(xn aB i++[x.aX]):=by rw[hx1];simp[dd,h1,h2]
     have hoF:=HO2.out;obtain⟨g4,c4,hv4,_⟩:=World.ownsRow.form hoF YJ;exact⟨⟨i+1,g4,c4,YG,by go_num,by rw[yq];exact hv4,by rw[yq,<-hv4];exact hoF,by rw[yq];exact R6.out.mono YG,Of⟩,by simp[intOf];omega⟩
    |true=>
     refine wp_loop_rounds 3 ?_
     iterate 3 (rw[rounds_succ];go_wp2_with (first|(at_lookup;have h_:=GI.out;(refine fN _ rfl _ _ 286 rfl 9 4 Tryz.underlying9 Tryz.underlying286 Tryz.underlying4 sx (w.heap.size+1) (2*i) (xn aB i) rfl GI.out _ rfl MR _ h1 ?_)) |(at_lookup;have h_:=GI.out;(refine fN _ rfl _ _ 286 rfl 9 4 Tryz.underlying9 Tryz.underlying286 Tryz.underlying4 sx (w.heap.size+1) (2*i) (xn aB i) rfl GI.out _ rfl GX _ h2 ?_))))
     have yq:xn aB (i+1)=(xn aB i):=by rw[hx1];simp[dd,h1,h2]
     exact⟨⟨i+1,g3,c3',YG,by go_num,by rw[yq],by rw[yq];exact HO0.out,by rw[yq];exact GI.out.mono YG,SO⟩,by simp[intOf];omega⟩
  ·obtain rfl:i=aB.length:=YG
   have hlen:=VD aB aB.length
   go_wp2_with fail
   refine(Rn g3 c3' _ _ (xn aB aB.length) _ ho rfl YG).mono ?_;rintro e w1 ⟨rfl,MP,hg1⟩;have Se:Up w w1:=Below.grown hb hg1 hb.size (λk e=>by cases e;have h_:=World.ownsRow.lt ho g3 rfl;omega)
   go_wp2_with fail
   go_ret
   exact⟨_,rfl,by simpa[Rs]using MP.more YG,Se⟩
end Go.Proofs.YtbalgkakkoocjaaGreat
namespace Go.Proofs.YtbalgkakkoocjaaGreat
set_option maxRecDepth 10000
open Go.RowKit
theorem EH{α:Type}[eo α]{c:α->List PV}{T:TypeId}{S:Nat->Prop}{β:Nat->Option cL}{w w':World}{v:Value}{ys:List α}{ω:Nat->Key->Prop}(hk:Ok w (mz β) (E1 S β 0 ω) w [])(ho:Own w' w.heap.size T v ys)(hu:Up w w')
 (hc:∀(x:α),(c x).length=eo.k α/\∀(j:Nat) (p:PV),(c x)[j]?=ZA p->∃u,(eo.cells x)[j]?=ZA u/\u.oneCell'=ZC/\∀(w:World) (E:Env),cN w E p u):
 ∃E',Ok w (mz β) E' w' [ZA ⟨T,eo.k α,ys.map c⟩]/\(∀b,S b->E'.S b)/\(∀b,E'.S b->S b\/w.heap.size<=b\/mz β b)/\((∀l B,l<0->E'.β l=ZA B->β l=ZA B)/\∀b q,E'.ω b q->ω b q\/w.heap.size<=b\/mz β b)/\cN w' E' (.ms 0) v:=by
 have Zm8:∀(i:Nat) (cs:List PV),(ys.map c)[i]?=ZA cs->cs.length=eo.k α:=by
  intro i cs hi;rw[VZ]at hi
  obtain⟨y,_,rfl⟩:=VT.1 hi;exact(hc y).1
 have key:∀(B:cL),v=B.sv->v.oneCell'=ZC->(B.z=ZD->w.heap.size<=B.b/\B.b<w'.heap.size)->(∀E,dA w' E ⟨T,eo.k α,ys.map c⟩ B)->
  ∃E',Ok w (mz β) E' w' [ZA ⟨T,eo.k α,ys.map c⟩]/\(∀b,S b->E'.S b)/\(∀b,E'.S b->S b\/w.heap.size<=b\/mz β b)/\((∀l B,l<0->E'.β l=ZA B->β l=ZA B)/\∀b q,E'.ω b q->ω b q\/w.heap.size<=b\/mz β b)/\cN w' E' (.ms 0) v:=by
  intro B hv h1 hB hb;obtain⟨h2,_⟩:=hk.new (ν:=0) (λh=>absurd h (WE 0)) ⟨T,eo.k α,ys.map c⟩ B hu.os hu.tape hu.output hu.size (λb hb=>hu.block b hb) hB (λ_=>hb _)
  refine⟨_,h2,λb h=>h,λb h=>.inl h,⟨λl B h=>absurd h (WE l),λ_ _ h=>.inl h⟩,.ms 0 v (.inl rfl) h1 λB' lB=>?_⟩
  have:B'=B:=by simpa[Env.add,eq_comm]using lB
  rw[this];exact hv
 rcases ho.2 with⟨hv,h0⟩ |⟨g,cap,cur,hv,hB,hg,xt,Kd,gl,ht⟩
 ·have hy:ys=[]:=List.length_eq_zero_iff.1 h0
  subst hy;exact key ⟨0,0,0,eo.k α,T,ZC⟩ (by rw[hv];rfl) (by rw[hv];rfl) (λh=>by cases h) λE=>⟨rfl,rfl,rfl,eo.pos,VJ _,Nat.zero_le _,Zm8,λ_=>rfl,λh=>YT,λ_ h=>by cases h⟩
 ·refine key ⟨g,cap,ys.length,eo.k α,T,ZD⟩ (by rw[hv];rfl) (by rw[hv];rfl) (λ_=>⟨hB,(VQ.1 hg).1⟩) λE=>⟨rfl,by simp,rfl,eo.pos,xt,Kd,Zm8,(λh=>by cases h),λ_=>⟨cur,hg,gl,λi cs j p hi hj=>?_⟩,λ_ h=>by cases h⟩
  rw[VZ]at hi
  obtain⟨y,hy,rfl⟩:=VT.1 hi;obtain⟨hl,Gf⟩:=hc y;obtain⟨u,Se,S9,hu3⟩:=Gf j p hj;refine⟨u,?_,S9,hu3 _ _⟩;have hf:=ym hy Se;have bO:=(VH.1 hf).1;rw[ux]at bO
  have:=congrArg (λl:List Value=>l[i*eo.k α+j]?) ht
  have h2:(cur.toList.take (ys.length*eo.k α))[i*eo.k α+j]?=(flat ys)[i*eo.k α+j]?:=this;rw[List.getElem?_take_of_lt bO,Array.getElem?_toList,hf]at h2
  exact h2
theorem Zci(n:ak):xn n.aB n.aB.length=(mi n).foldl dd []:=by
 have h:∀(l:List bM) (acc:List ByteArray),l.foldl (λout l=>dd (dd out l.ar) l.aX) acc=(l.flatMap λl=>[l.ar,l.aX]).foldl dd acc:=by
  intro l
  induction l with
  |nil=>intro acc;rfl
  |cons x l ih=>intro acc;simp only[Wj,List.flatMap_cons,X6,List.foldl_nil,ih]
 unfold xn mi;rw[WA];exact h _ _
def dq(n:ak):Option (List ByteArray):=
 if n.aB.length<=1048576/\(n.aB.all λl=>ZE (l.ar.size<=maxLen/\l.aX.size<=maxLen))=ZC then ZA (JK ((mi n).foldl dd []))else ZB
theorem EM(n:ak){r:(List ByteArray)}(H:dq n=ZA r):cq prog 190 [.ag (bE n)] [] (.ms 0) [ZA ⟨.of 9,1,r.map km⟩]:=by
 unfold dq at H
 split at H
 case isFalse=>cases H
 rename_i ji;obtain⟨hn,hs⟩:=ji;obtain rfl:=VG H;have hs':∀l∈n.aB,l.ar.size<=maxLen/\l.aX.size<=maxLen:=λl hl=>YA (List.all_eq_true.1 hs l hl)
 intro S β w vs ω hk hl ha;obtain⟨x,hx0,hr⟩:=ha 0 _ rfl;have hv:vs=#[x]:=by
  have h1:vs.size=1:=hl;apply X9 (by simp[h1])
  intro i h2 h3;have:i=0:=YG;subst this;have:=(VQ.1 hx0).2
  simpa using this
 subst hv;obtain⟨us,rfl,hul,Se,hur⟩:=hr.pb;have ZkT:us.size=3:=hul;have h0:us[0]?=ZA us[0]:=Array.getElem?_eq_getElem YG;have hus:us=#[us[0],us[1],us[2]]:=by
  apply X9 (by simp[ZkT])
  intro i h2 h3
  match i,h2 with
  |0,_=>rfl
  |1,_=>rfl
  |2,_=>rfl
  |i+3,h2=>omega
 have hr0:=hur 0 (.sl (n.aB.map br)) _ rfl h0;have D2:∃A c,us[0]=.slice A n.aB.length c/\n.aB.length<=c/\Rd w w.heap.size A n.aB:=by
  cases hr0 with
  |c h=>
   generalize hq:PV.sl (n.aB.map br)=q at h
   generalize us[0]=y at h
   cases h with
   |v x h=>cases hq
   |ud=>cases hq
   |un=>cases hq
   |rp=>cases hq
   |fn=>cases hq
   |nil A c=>
    have:n.aB=[]:=by simpa using hq
    exact⟨A,c,by rw[this];rfl,by rw[this];simp,by rw[this];exact Rd.Zih⟩
   |sl es b off k c u hS hkp xt hm zq Gf h1 hrr=>
    obtain rfl:n.aB.map br=es:=by simpa using hq
    refine⟨_,c,by simp,by simpa using xt,λdX=>⟨b,off,rfl,hk.sz b hS,λj u' EB=>?_⟩⟩
    have gD:0<n.aB.length:=XR.2 dX;have hk6:k=6:=(zq 0 (br n.aB[0]) (by simp[gD])).symm
    subst hk6;have hj:=(VH.1 EB).1;rw[ux]at hj
    have hj6:j<n.aB.length*6:=hj;have hi:j / 6<n.aB.length:=YG;have hy:n.aB[j / 6]?=ZA n.aB[j / 6]:=VF hi;have hjj:j=(j / 6)*6+j % 6:=YG;have hm6:j % 6<6:=XM _ (by decide)
    have hp:∃p u'',(br n.aB[j / 6])[j % 6]?=ZA p/\(eo.cells n.aB[j / 6])[j % 6]?=ZA u''/\∀z,cf w S p z->z=u'':=by
     generalize n.aB[j / 6]=y;generalize j % 6=m at hm6
     match m,hm6 with
     |0,_=>exact⟨_,_,rfl,rfl,λz hz=>by cases hz;rfl⟩
     |1,_=>exact⟨_,_,rfl,rfl,λz hz=>by cases hz;rfl⟩
     |2,_=>exact⟨_,_,rfl,rfl,λz hz=>by cases hz;rfl⟩
     |3,_=>exact⟨_,_,rfl,rfl,λz hz=>by cases hz;rfl⟩
     |4,_=>exact⟨_,_,rfl,rfl,λz hz=>by cases hz;rfl⟩
     |5,_=>exact⟨_,_,rfl,rfl,λz hz=>by cases hz;rfl⟩
    obtain⟨p,u'',hp1,hp2,hp3⟩:=hp;have hf:=ym hy hp2;rw[show eo.k bM=6 from rfl,<-hjj]at hf
    obtain rfl:u''=u':=VG (hf.symm.trans EB);have e1:(n.aB.map br)[j / 6]?=ZA (br n.aB[j / 6]):=by simp[hi]
    have hc:=Gf (j / 6) _ (j % 6) p e1 hp1;have hz:=hp3 _ (hrr (j / 6) _ (j % 6) p e1 hp1);rw[hz]at hc
    rw[show off+j=off+j / 6*6+j % 6 by omega]
    exact hc
 obtain⟨A,c,hA,Zm1,hrd⟩:=D2;rw[hus,hA];refine(QN A n.aB _ c _ _ w hrd rfl Zm1 hn hs').mono ?_;rintro e w' ⟨v,rfl,ho,hu⟩;rw[Zci]at ho
 obtain⟨E',h1,h2,h3,h4,h5⟩:=EH (c:=km) hk ho hu (λx=>⟨rfl,λj p hj=>by
  cases j with
  |zero=>obtain rfl:vs x=p:=by simpa using hj
         exact⟨_,rfl,rfl,λw E=>.c (.v _ rfl)⟩
  |succ j=>simp[km]at hj⟩)
 exact⟨v,E',rfl,h1,h2,h3,h4,h5⟩
instance (n:ak):CT prog (dq n):=⟨190,[.ag (bE n)],[],λr=>.ms 0,λr=>[ZA ⟨.of 9,1,r.map km⟩],EM n⟩
set_option maxRecDepth 100000
abbrev RP(b:Nat):Value:=.pointer (ZA ⟨b,0,ZB⟩)
theorem Zap(w:World)(b f:Nat)(sv:Value)(nm:String)(h:w.cell? ⟨b,0,ZB⟩=ZA (.iface 316 sv))
 (hm:(((prog.info? 338).bind λi=>i.methods.find? (·.name==nm)).map λm=>(m.path,m.func))=ZA (#[⟨340,0,ZC⟩],ZB))
 (hi:Sem.run prog (method (prog.types.size+99) 316 sv nm) w=.ok (f,sv) w):
 Sem.run prog (method (prog.types.size+100) 338 (RP b) nm) w=.ok (f,sv) w:=by
 obtain⟨m,Sc,Ft⟩:=VT.1 hm;obtain⟨i,lS,Kg⟩:=Yt.1 Sc;have hpa:m.path=#[⟨340,0,ZC⟩]:=congrArg Prod.fst Ft;have hfu:m.func=none:=congrArg Prod.snd Ft;have u:=run_underlying Tryz.underlying340;unfold method;have hl:Sem.run prog (Sem.load Mode.plain ({ block:=b,off:=0}:Addr) Sem.pure) w=.ok (.iface 316 sv) w:=by
  simp[Sem.run,h]
 simp[typeInfo,lS,Kg,hpa,hfu,follow,Place.get,u,asAddr,loadVar,isAgg,load,h,fieldPlace];rw[show({ block:=b,off:=0}:Addr).add 0={ block:=b,off:=0}from rfl,hl];exact hi
theorem Zf8(w:World)(b:Nat)(sv:Value)(h:w.cell? ⟨b,0,ZB⟩=ZA (.iface 316 sv)):
 Sem.run prog (method (prog.types.size + 100) 338 (RP b) "Less") w = .ok (405, .agg #[.iface 316 sv]) w := by
 have hm : (((prog.info? 338).bind λi => i.methods.find? (·.name == "Less")).map λm => (m.path, m.func)) = ZA (#[], ZA (405, ZD)) := by kernel_rfl
 obtain⟨m,Sc,Ft⟩:=VT.1 hm;obtain⟨i,lS,Kg⟩:=Yt.1 Sc;have hpa:m.path=#[]:=congrArg Prod.fst Ft;have hfu:m.func=ZA (405,ZD):=congrArg Prod.snd Ft;have u:=run_underlying Tryz.underlying338;have u2:=run_underlying Tryz.underlying340;unfold method;have vE:Sem.run prog (loadVar 340 ⟨b,0,ZB⟩) w=.ok (.agg #[.iface 316 sv]) w:=by
  have a1:=Tryz.isAgg340;have a2:=Tryz.sizeOf340;have hl:Sem.run prog (Sem.load Mode.plain ({ block:=b,off:=0}:Addr) Sem.pure) w=.ok (.iface 316 sv) w:=by
   simp[Sem.run,h]
  unfold loadVar loadCells;simp[a1,a2,loadCellsFrom,load];rw[show({ block:=b,off:=0}:Addr).add 0={ block:=b,off:=0}from rfl,hl];rfl
 have hk:∀(x y:ByteArray) (w:World),Sem.run prog (Builtin.ssaWrapNilChk_ #[338] 338 #[RP b,.string x,.string y]) w=.ok (RP b) w:=λ_ _ _=>rfl
 have hf:Sem.run prog (follow [] 338 (Place.val (RP b))) w=.ok (338,Place.val (RP b)) w:=rfl;have hr:∀x,Sem.run prog (receiverAt 338 (Place.val (RP b)) ZD (ZA x)) w=.ok (.agg #[.iface 316 sv]) w:=by
  intro x;unfold receiverAt;simp[u,Place.get,strVal,hk,asAddr,vE]
 simp[typeInfo,lS,Kg,hpa,hfu,hf,hr]
open Go.Lib Go.Sort
abbrev SV(ou off n c:Nat):Value:=.slice (ZA ⟨ou,off,ZB⟩) n c
theorem Zk4 (ou off n c : Nat) (w : World) : Sem.run prog (method (prog.types.size + 99) 316 (SV ou off n c) "Len") w = .ok (400, SV ou off n c) w := by kernel_rfl
theorem ZhQ (ou off n c : Nat) (w : World) : Sem.run prog (method (prog.types.size + 99) 316 (SV ou off n c) "Swap") w = .ok (403, SV ou off n c) w := by kernel_rfl
theorem ZhP (ou off n c : Nat) (w : World) : Sem.run prog (method (prog.types.size + 100) 316 (SV ou off n c) "Less") w = .ok (401, SV ou off n c) w := by kernel_rfl
theorem Ze2(ou off c size:Nat)(W:World)(G:Nat->Int)(hc:∀t,t<size->W.cell? ⟨ou,off+t,ZB⟩=ZA (ZF ZG (G t)))(i j:Nat)(hi:i<size)(hj:j<size)(_hsz:size<4611686018427387904):
 Calls prog 401 #[SV ou off size c,ZF ZG i,ZF ZG j] W λe w'=>e=.returned (.bool (ZE (G i<G j)))/\∃q,w'=W.drewN q:=by
 have ci:=hc i hi;have cj:=hc j hj
 go_enter func401,ntmps401
 go_wp2
 go_quiet (fail)
 go_wp2
 go_ret
 exact⟨rfl,nq,rfl⟩
theorem Ze3(ou off c size:Nat)(W:World)(x y:Int)(i j:Nat)(hi:i<size)(hj:j<size)(_hsz:size<4611686018427387904)
 (ci:W.cell? ⟨ou,off+i,ZB⟩=ZA (ZF ZG x)) (cj:W.cell? ⟨ou,off+j,ZB⟩=ZA (ZF ZG y)) (fi:W.frozen? ⟨ou,off+i,ZB⟩=ZD) (fj:W.frozen? ⟨ou,off+j,ZB⟩=ZD):
 Calls prog 403 #[SV ou off size c,ZF ZG i,ZF ZG j] W λe w'=>e=.returned (.tuple #[])/\∃q,w'=((W.setCell ⟨ou,off+i,ZB⟩ (ZF ZG y)).setCell ⟨ou,off+j,ZB⟩ (ZF ZG x)).drewN q:=by
 obtain⟨v',hy'⟩:=cell?_setCell_some (w:=W) (p:=⟨ou,off+i,ZB⟩) (x:=ZF ZG y) (q:=⟨ou,off+j,ZB⟩) cj
 go_enter func403,ntmps403
 go_wp2
 go_region
 all_goals(try go_wp2)
 all_goals go_end0
 all_goals exact⟨rfl,1,rfl⟩
theorem ZhR(ou off c size:Nat)(W:World):Calls prog 400 #[SV ou off size c] W λe w'=>e=.returned (ZF ZG size)/\w'=W:=by
 go_enter func400,ntmps400
 go_wp2
 go_ret
 exact⟨rfl,rfl⟩
theorem Zf6(ou off c size:Nat)(W:World)(G:Nat->Int)(hc:∀t,t<size->W.cell? ⟨ou,off+t,ZB⟩=ZA (ZF ZG (G t)))(hb:ou<W.heap.size)(i j:Nat)(hi:i<size)(hj:j<size)(uV:size<4611686018427387904):
 Calls prog 405 #[.agg #[.iface 316 (SV ou off size c)],ZF ZG i,ZF ZG j] W λe w'=>e=.returned (.bool (ZE (G j<G i)))/\∃o q,w'=(W.alloc o).drewN q:=by
 have mL:=ZhP ou off size c;have eL:∀args w,(callFunc 401 args).run prog w=.ok (.enter 401 args) w:=enters_of func401 YK rfl;simp at mL
 have hl:∀o,Calls prog 401 #[SV ou off size c,ZF ZG j,ZF ZG i] (W.alloc o) λe w'=>e=.returned (.bool (ZE (G j<G i)))/\∃q,w'=(W.alloc o).drewN q:=λo=>
  Ze2 ou off c size _ G (λt ht=>(Below.cell (Up.al o (Up.rfl' W)) (p:=⟨ou,off+t,ZB⟩) hb).trans (hc t ht)) j i hj hi uV
 go_enter func405,ntmps405
 go_wp2_with (go_at_fn 401;refine(hl _).mono ?_;rintro e w' ⟨rfl,q,rfl⟩)
 go_ret
 exact⟨rfl,_,q,rfl⟩
theorem SW.Zjo{w0 W:World}{ou off:Nat}{dk:Array Int}(h:SW (Value.int .i64) w0 ou off dk W){b o:Nat}(hb:b<w0.heap.size)(dX:b≠ou):W.cell? ⟨b,o,ZB⟩=w0.cell? ⟨b,o,ZB⟩:=by
 obtain⟨n,os,rfl⟩:=h;unfold sortWorld;rw[cell?_grow _ _ _ (by simpa using hb),cell?_putRow_other _ _ _ _ _ _ (.inl dX)]
 rfl
def Fo(x y:Int):Bool:=ZE (y<x)
theorem ZhM(ou off c b bR:Nat)(d:Array Int)(w:World)(hH:Holds (Value.int .i64) w ou off d)(CY:ou<w.heap.size)(hR:w.cell? ⟨bR,0,ZB⟩=ZA (.iface 316 (SV ou off d.size c)))(hRb:bR<w.heap.size)(dX:bR≠ou)
 (IJ:0<=b) (hb:b<=d.size) (uV:d.size<4611686018427387904):
 Calls prog 358 #[.iface 338 (RP bR),ZF ZG 0,ZF ZG b] w λe w'=>e=.returned (.tuple #[])/\SW (Value.int .i64) w ou off (Sort.insertionSort Fo d 0 b) w':=by
 have eL:∀args w,(callFunc 405 args).run prog w=.ok (.enter 405 args) w:=enters_of func405 YK rfl;have eS:∀args w,(callFunc 403 args).run prog w=.ok (.enter 403 args) w:=enters_of func403 YK rfl
 go_enter func358,ntmps358
 go_wp2
 go_loopw [6] (λvi wr=>∃(i:Nat) (dk:Array Int),vi=ZF ZG i/\0<i/\i<=b+1/\dk.size=d.size/\SW (Value.int .i64) w ou off dk wr/\
  insOuter Fo 0 b i dk=insOuter Fo 0 b (0+1) d) (λvi _=>b+1-(intOf vi).toNat)
 case atStart=>exact⟨1,d,by go_num,YG,YG,rfl,SW.start hH,rfl⟩
 case round=>
  obtain⟨i,dk,rfl,hai,hib,hsk,BU,hO⟩:=hrel;have HO:Hid (insOuter Fo 0 b i dk=insOuter Fo 0 b (0+1) d):=hO;clear hO
  go_wp2
  ·go_loopw [7] (λvj wr2=>∃(j:Nat) (dj:Array Int),vj=ZF ZG j/\j<=i/\dj.size=d.size/\SW (Value.int .i64) w ou off dj wr2/\
    insInner Fo 0 j dj=insInner Fo 0 i dk) (λvj _=>(intOf vj).toNat)
   case atStart=>exact⟨i,dk,rfl,VJ _,hsk,BU,rfl⟩
   case round=>
    obtain⟨j,dj,rfl,Cl,hsj,Fv,hI⟩:=hrel;have bO:i<b:=by assumption
    have HW:Hid (SW (Value.int .i64) w ou off dj wr):=Fv;have HI:Hid (insInner Fo 0 j dj=insInner Fo 0 i dk):=hI;have hHj:=Fv.holds CY hH hsj;have hbw:=Fv.lt CY;have hRw:wr.cell? ⟨bR,0,ZB⟩=ZA (.iface 316 (SV ou off d.size c)):=(SW.Zjo Fv hRb dX).trans hR;clear Fv hI;have out:(j<=0\/Fo dj[j]! dj[j-1]! = ZD)->∀W,SW (Value.int .i64) w ou off dj W->∃(i':Nat) (dk':Array Int),Value.int .i64 ((i:Int)+1)=ZF ZG (i':Nat)/\0<i'/\i'<=b+1/\dk'.size=d.size/\
     SW (Value.int .i64) w ou off dk' W/\insOuter Fo 0 b i' dk'=insOuter Fo 0 b (0+1) d:=λhs W hW=>
     ⟨i+1,dj,by go_num,YG,YG,hsj,hW,
      by rw[<-HO.out,insOuter_go _ _ _ _ _ bO,<-HI.out,insInner_stop _ _ _ _ hs]⟩
    have OUT:Hid _:=out;clear out
    by_cases hja:0<j
    ·have mL:=Zf8 wr bR _ hRw
     simp at mL
     have hl:=Zf6 ou off c d.size wr (λt=>dj[t]!) (λt ht=>(hHj t YG).1) hbw j (j-1) YG YG uV
     rw[show(((j-1:Nat):Int))=(j:Int)-1 by omega]at hl
     have W2:Hid (∀o q,SW (Value.int .i64) w ou off dj ((wr.alloc o).drewN q)):=λo q=>(HW.out.alloc o).drewN q
     have mS : ∀ o q, Sem.run prog (method (prog.types.size + 100) 338 (RP bR) "Swap") ((wr.alloc o).drewN q) = .ok (403, SV ou off d.size c) ((wr.alloc o).drewN q) := λo q =>
      Zap ((wr.alloc o).drewN q) bR 403 (SV ou off d.size c) "Swap" ((SW.Zjo (W2.out o q) hRb dX).trans hR) YK (ZhQ _ _ _ _ _)
     simp at mS
     have hsw:∀o q,Calls prog 403 #[SV ou off d.size c,ZF ZG j,ZF ZG ((j-1:Nat):Int)] ((wr.alloc o).drewN q) λe w'=>e=.returned (.tuple #[])/\SW (Value.int .i64) w ou off (swp dj j (j-1)) w':=λo q=>by
      have hh:=(W2.out o q).holds CY hH hsj;refine(Ze3 ou off c d.size _ _ _ j (j-1) YG YG uV (hh j YG).1 (hh (j-1) YG).1 (hh j YG).2 (hh (j-1) YG).2).mono ?_;rintro e w' ⟨rfl,q',rfl⟩;exact⟨rfl,((W2.out o q).swap CY j (j-1) YG YG).drewN q'⟩
     rw[show(((j-1:Nat):Int))=(j:Int)-1 by omega]at hsw
     change Calls _ _ _ _ λe w'=>e=.returned (.bool (Fo dj[j]! dj[j-1]!))/\_ at hl
     cases vE:Fo dj[j]! dj[j-1]! with
     |true=>
      rw[vE]at hl
      go_wp2_with (first
       |(go_at_fn 405;refine hl.mono ?_;rintro e w' ⟨rfl,o,q,rfl⟩)
       |(go_at_fn 403;refine(hsw _ _).mono ?_;rintro e w' ⟨rfl,hS⟩))
      go_roundw
      case rel=>
       (repeat apply Exists.intro)
       refine⟨⟨j-1,swp dj j (j-1),by congr 1<;>omega,YG,by rw[size_swp];exact hsj,hS,?_⟩,by rw[Yp bO,show((j-1:Nat):Int)=(j:Int)-1 by omega]⟩
       rw[<-HI.out,insInner_go Fo 0 j dj hja vE]
      case measure=>simp[intOf];omega
     |false=>
      rw[vE]at hl
      go_wp2_with (go_at_fn 405;refine hl.mono ?_;rintro e w' ⟨rfl,o,q,rfl⟩)
      go_roundw
      case rel=>exact OUT.out (Or.inr vE) _ (W2.out o q)
      case measure=>simp[intOf];omega
    ·go_wp2
     go_roundw
     case rel=>exact OUT.out (Or.inl YG) _ HW.out
     case measure=>simp[intOf];omega
  ·have Ev:¬i<b:=by assumption
   go_end0
   exact⟨rfl,by unfold Sort.insertionSort;rw[<-HO.out,insOuter_stop _ _ _ _ _ Ev];exact BU⟩
end Go.Proofs.YtbalgkakkoocjaaGreat
namespace Go.Proofs.YtbalgkakkoocjaaGreat
set_option maxRecDepth 10000
open Go.RowKit Go.Lib Go.Sort
set_option maxRecDepth 100000
theorem Zp1(ou off c lim bR:Nat)(d:Array Int)(w:World)(hH:Holds (Value.int .i64) w ou off d)(CY:ou<w.heap.size)(hd:d.size=3)(hR:w.cell? ⟨bR,0,ZB⟩=ZA (.iface 316 (SV ou off d.size c)))(hRb:bR<w.heap.size)(dX:bR≠ou):
 Calls prog 328 #[.iface 338 (RP bR),ZF ZG 0,ZF ZG 3,ZF ZG lim] w λe w'=>e=.returned (.tuple #[])/\SW (Value.int .i64) w ou off (Sort.insertionSort Fo d 0 3) w':=by
 have hi:=ZhM ou off c 3 bR d w hH CY hR hRb dX YG YG YG;rw[show((3:Nat):Int)=3 from rfl]at hi
 clear hH hR
 go_enter func328,ntmps328
 go_wp2
 go_loopw [1,2] (λv1 v2 wr=>v1=ZF ZG 0/\v2=ZF ZG 3/\wr=w) (λ_ _ _=>0)
 case atStart=>exact⟨rfl,rfl,rfl⟩
 case round=>
  obtain⟨rfl,rfl,rfl⟩:=hrel
  go_wp2_with (go_at_call 358;refine hi.mono ?_;rintro e w' ⟨rfl,hS⟩)
  (try simp only[Exit.inBlock,Exit.then])
  refine bodyPost_ret (results_none rfl _ _ _) rfl ?_;exact⟨rfl,hS⟩
theorem Zgo(ou off c bR:Nat)(d:Array Int)(w:World)(hH:Holds (Value.int .i64) w ou off d)(CY:ou<w.heap.size)(hd:d.size=3)(hR:w.cell? ⟨bR,0,ZB⟩=ZA (.iface 316 (SV ou off d.size c)))(hRb:bR<w.heap.size)(dX:bR≠ou):
 Calls prog 310 #[.iface 338 (RP bR)] w λe w'=>e=.returned (.tuple #[])/\SW (Value.int .i64) w ou off (Sort.insertionSort Fo d 0 3) w':=by
 have mN := Zap w bR 400 (SV ou off d.size c) "Len" hR YK (Zk4 _ _ _ _ _)
 simp at mN
 have eN:∀args w,(callFunc 400 args).run prog w=.ok (.enter 400 args) w:=enters_of func400 YK rfl;have hN:=ZhR ou off c d.size w;have hL:=Tryz.bits_Len 3 w YG YG;have hp:=λlim=>Zp1 ou off c lim bR d w hH CY hd hR hRb dX
 rw[hd]at mN hN
 rw[show((3:Nat):Int)=3 from rfl]at hN
 clear hH hR
 go_enter func310,ntmps310
 go_wp2_with (first
  |(go_at_fn 400;refine hN.mono ?_;rintro e w' ⟨rfl,rfl⟩)
  |(go_at_call 327;refine hL.mono ?_;rintro e w' ⟨rfl,rfl⟩)
  |(go_at_call 328;refine(hp _).mono ?_;rintro e w' ⟨rfl,hS⟩))
 all_goals first
  |(exfalso;omega)
  |(go_end0;exact⟨rfl,hS⟩)
theorem Zhh:ElT prog 25 3 (eo.k Int) 8:=ElT.mk' (z:=ZF ZG 0) Tryz.underlying25 YK rfl
theorem BJ(ls:List Int):flat ls=ls.map (Value.int .i64):=by
 induction ls with
 |nil=>rfl
 |cons x xs ih=>rw[xD,ih];rfl
theorem ZpS{w:World}{B:Nat}{v:Value}{xs:List Int}(h:Own w B 3 v xs)(hl:xs.length=3):∃g cap cur,v=.slice (ZA ⟨g,0,ZB⟩) 3 cap/\B<=g/\w.heap[g]?=ZA (.cells cur 3 (0,0))/\3<=cap/\cap<=maxLen/\cur.size=cap*1/\cur.toList.take 3=xs.map (Value.int .i64):=by
 rcases h.2 with⟨_,h0⟩ |⟨g,cap,cur,hv,hB,hg,xt,Kd,gl,ht⟩
 ·omega
 ·rw[hl]at hv xt ht
  rw[BJ]at ht
  exact⟨g,cap,cur,hv,hB,hg,xt,Kd,gl,ht⟩
theorem Zf7(W:World)(sv:Value):Calls prog 311 #[.iface 316 sv] W λe w'=>e=.returned (.iface 338 (RP W.heap.size))/\w'=W.alloc (.cells #[.iface 316 sv] 340):=by
 go_enter func311,ntmps311
 go_wp2
 go_ret
 exact⟨rfl,rfl⟩
def GC(xs:List Int):List Int:=(Sort.insertionSort Fo xs.toArray 0 3).toList
theorem Bz(lt:Int->Int->Bool)(a:Nat):∀(j:Nat) (d:Array Int),(insInner lt a j d).size=d.size
 |0,d=>rfl
 |j+1,d=>by
  unfold insInner
  split
  ·rw[Bz lt a j,size_swp]
  ·rfl
theorem BB(lt:Int->Int->Bool)(a b:Nat):∀(n i:Nat) (d:Array Int),b-i<=n->(insOuter lt a b i d).size=d.size
 |0,i,d,h=>by rw[insOuter,if_neg YG]
 |n+1,i,d,h=>by
  rw[insOuter]
  split
  ·rw[BB lt a b n (i+1) _ YG,Bz]
  ·rfl
theorem Rr(xs:List Int):(GC xs).length=xs.length:=by
 unfold GC Sort.insertionSort;rw[Array.length_toList,BB _ _ _ 3 _ _ YG];simp
theorem KC(A:Option Addr)(xs:List Int)(c:Nat)(w:World)(hr:Rd w w.heap.size A xs)(hl:xs.length=3):
 Calls prog 272 #[.slice A 3 c] w λe w'=>∃v,e=.returned v/\Own w' w.heap.size 3 v (GC xs)/\Up w w':=by
 go_enter func272,ntmps272
 go_wp2_with (at_builtin;refine kA Zhh rfl (.tmp 4) (.tmp 5) rfl (base:=w.heap.size) (ys:=[]) Zj (Own.empty w _ _ 0 _ (VJ _) Y6 rfl) 3 Zj hl.symm (hr.up YH) YR Zd (by first|(simp;done) |(simp;omega) |(have h_:=hB.size;omega) |(have h_:=hB.size;simp;omega)) ?_;intro v' w1 MP hg1 _ Se;refine Hid.out ?_)
 refine Lib.hid ?_;have ho:Own w1 w.heap.size 3 v' xs:=by simpa using MP
 have hu:=Se w (VJ _) YH;obtain⟨g,cap,cur,rfl,hgB,hgh,h3,Kd,gl,hct⟩:=ZpS ho hl;have xH:g<w1.heap.size:=(VQ.1 hgh).1;have hRv:=Zf7 w1 (SV g 0 3 cap);have hg2:∀o,(w1.alloc o).heap[g]?=ZA (.cells cur 3 (0,0)):=λo=>(Below.block (Up.al o (Up.rfl' w1)) g xH).trans hgh
 have uV:∀o,(w1.alloc o).heap.size=w1.heap.size+1:=λo=>by simp
 have hS:∀o,o=Obj.cells #[.iface 316 (SV g 0 3 cap)] 340 (0,0)->_:=λo ho=>Zgo g 0 cap w1.heap.size xs.toArray (w1.alloc o) (holds_of_blockI (hg2 o) (by rw[hl];exact hct)) (by rw[uV];omega) (by simp[hl]) (by subst ho;rw[cell_of_row _ _ 0 _ _ (0,0) (heap_alloc_new w1 _)];simp[hl]) (by rw[uV];omega) YG
 have Mw:=hS _ rfl;clear hS
 go_wp2_with (first
  |(go_at_call 311;refine hRv.mono ?_;rintro e w' ⟨rfl,rfl⟩)
  |(go_at_call 310;refine Mw.mono ?_;rintro e w' ⟨rfl,hSW⟩))
 go_ret
 obtain⟨n,os,rfl⟩:=hSW;have bO:(GC xs).length=xs.length:=Rr xs;have sA:=ownsRow_sortedI (n:=n) (os:=os) (ss:=xs) (ts:=GC xs) bO hgB (hg2 (Obj.cells #[.iface 316 (SV g 0 3 cap)] 340 (0,0))) YG Kd gl;refine⟨_,rfl,?_,?_⟩
 ·unfold Own
  rw[bO,BJ];rw[hl]at sA⊢
  unfold GC at sA⊢
  exact sA
 ·have SR:=grownBy_sortedI (w:=w1.alloc (Obj.cells #[.iface 316 (SV g 0 3 cap)] 340 (0,0))) (g:=g) (n:=n) (os:=os) (Sort.insertionSort Fo xs.toArray 0 3)
  have S9:=Up.al (Obj.cells #[.iface 316 (SV g 0 3 cap)] 340 (0,0)) hu;exact⟨SR.os.trans S9.os,SR.tape.trans S9.tape,SR.output.trans S9.output,Wb S9.size SR.size,λb hb=>(SR.block b (Nat.lt_of_lt_of_le hb S9.size) YR).trans (S9.block b hb)⟩
end Go.Proofs.YtbalgkakkoocjaaGreat
namespace Go.Proofs.YtbalgkakkoocjaaGreat
set_option maxRecDepth 10000
open Go.RowKit Go.Lib
def mV(l:List Int):Option (List Int):=if l.length=3 then ZA (GC l)else ZB
theorem ZiM{w:World}{S:Nat->Prop}{xs:List Int}{x:Value}(uV:∀b,S b->b<w.heap.size)(h:cf w S (.sl (xs.map aI)) x):∃A c,x=.slice A xs.length c/\xs.length<=c/\Rd w w.heap.size A xs:=by
 generalize hq:PV.sl (xs.map aI)=q at h
 cases h with
 |v x h=>cases hq
 |ud=>cases hq
 |un=>cases hq
 |rp=>cases hq
 |fn=>cases hq
 |nil A c=>
  have:xs=[]:=by simpa using hq
  exact⟨A,c,by rw[this];rfl,by rw[this];simp,by rw[this];exact Rd.Zih⟩
 |sl es b off k c u hS hkp xt hm zq Gf h1 hrr=>
  obtain rfl:xs.map aI=es:=by simpa using hq
  refine⟨_,c,by simp,by simpa using xt,λdX=>⟨b,off,rfl,uV b hS,λj u' EB=>?_⟩⟩
  have gD:0<xs.length:=XR.2 dX;have hk1:k=1:=(zq 0 (aI xs[0]) (by simp[gD])).symm
  subst hk1;rw[BJ]at EB
  rw[VZ]at EB
  obtain⟨y,hy,rfl⟩:=VT.1 EB;have hj:=(VH.1 hy).1;have e1:(xs.map aI)[j]?=ZA (aI y):=by rw[VZ,hy];rfl
  have hc:=Gf j _ 0 (vi y) e1 rfl;have hz:=hrr j _ 0 (vi y) e1 rfl;have vF:u j 0=ZF ZG y:=by
   generalize hp:u j 0=z at hz
   cases hz with
   |v _ _=>rfl
  rw[vF]at hc
  rw[show off+j=off+j*1+0 by omega]
  exact hc
theorem DE(l:List Int){r:List Int}(H:mV l=ZA r):cq prog 272 [.sl (l.map aI)] [] (.ms 0) [ZA ⟨.of 3,1,r.map aI⟩]:=by
 unfold mV at H
 split at H
 case isFalse=>cases H
 rename_i hl3;obtain rfl:=VG H;intro S β w vs ω hk hl ha;obtain⟨x,hx0,hr⟩:=ha 0 _ rfl;have hv:vs=#[x]:=by
  have h1:vs.size=1:=hl;apply X9 (by simp[h1])
  intro i h2 h3;have:i=0:=YG;subst this;have:=(VQ.1 hx0).2
  simpa using this
 subst hv;have hr0:cf w S (.sl (l.map aI)) x:=by cases hr with|c h=>exact h
 obtain⟨A,c,rfl,Zm1,hrd⟩:=ZiM hk.sz hr0;rw[hl3];refine(KC A l c w hrd hl3).mono ?_;rintro e w' ⟨v,rfl,ho,hu⟩;obtain⟨E',h1,h2,h3,h4,h5⟩:=EH (c:=aI) hk ho hu (λx=>⟨rfl,λj p hj=>by
  cases j with
  |zero=>obtain rfl:vi x=p:=by simpa using hj
         exact⟨_,rfl,rfl,λw E=>.c (.v _ rfl)⟩
  |succ j=>simp[aI]at hj⟩)
 exact⟨v,E',rfl,h1,h2,h3,h4,h5⟩
instance (l:List Int):CT prog (mV l):=⟨272,[.sl (l.map aI)],[],λr=>.ms 0,λr=>[ZA ⟨.of 3,1,r.map aI⟩],DE l⟩
end Go.Proofs.YtbalgkakkoocjaaGreat
namespace Go.Proofs.YtbalgkakkoocjaaGreat
set_option maxRecDepth 10000
open Go.RowKit
variable {i:Nat}{k o:Int}{w:World}
structure Ln where
 o:Int
 k:Int
 a:Int
 t:Int
variable {b:List Ln}{x:Ln}
instance :eo Ln where
 cells x:=[I x.o,I x.k,I x.a,I x.t]
 k:=4
 len _:=rfl
 pos:=by decide
 one:=by simp[Value.oneCell',I]
instance :Inhabited Ln:=⟨⟨0,0,0,0⟩⟩
def zu(n l h:Int):Bool:=ZE (l<=n)&&ZE (n<=h)
def uE(o k a t:Int):Bool:=zu o 1 9999&&zu k 1 3&&zu a 1 100000&&zu t 0 100000
def ZmJ(x y:Ln):Bool:=x.o==y.o&&x.k==y.k&&x.a==y.a&&x.t==y.t
theorem Zei{x y:Ln}:ZmJ x y=ZC↔x=y:=by
 cases x;cases y;simp[ZmJ,and_assoc]
instance :DecidableEq Ln:=λ_ _=>decidable_of_iff _ Zei
def rR(o k:Int)(s:Int)(x:Ln):Int:=if(x.o==o&&x.k==k)=ZC then wrap64 (s+x.a)else s
def eI(xs:List Ln)(o k:Int):Int:=xs.foldl (rR o k) 0
def vZ(xs:List Int)(j:Nat):Bool:=zu (xs.getD j 0) 0 100&&(ZE (j=0) ||ZE (xs.getD (j-1) 0<=xs.getD j 0))
def td(xs:List Int):Bool:=Cv xs.length (vZ xs)&&zu xs.length 1 6
theorem Zcr{xs:List Int}{x:Int}(hx:xs[i]?=ZA x)(h:zu x 0 100=ZD):vZ xs i=false:=by simp[vZ,hx,h]
theorem TL{xs:List Int}{x:Int}(h0:i<=0)(hx:xs[i]?=ZA x)(h:zu x 0 100=ZC):vZ xs i=true:=by
 obtain rfl:i=0:=YG;simp[vZ,hx,h]
theorem TJ{xs:List Int}{x y:Int}(hy:xs[i]?=ZA y)(hx:xs[i+1]?=ZA x)(h:x<y):vZ xs (i+1)=false:=by
 simp[vZ,hx,hy];omega
theorem ZfJ{xs:List Int}{x y:Int}(hy:xs[i]?=ZA y)(hx:xs[i+1]?=ZA x)(hb:zu x 0 100=ZC)(h:¬x<y):vZ xs (i+1)=true:=by
 simp[vZ,hx,hy,hb];omega
theorem uD{n l h:Int}(e:zu n l h=ZC):l<=n/\n<=h:=by simpa[zu]using e
theorem Jq{xs:List Int}(h:td xs=ZC):1<=xs.length/\xs.length<=6/\∀(i:Nat) (x:Int),xs[i]?=ZA x->0<=x/\x<=100:=by
 simp only[td,VN]at h
 have h2:=uD h.2;refine⟨YG,YG,λi x hx=>?_⟩
 have h3:=Ea.1 h.1 i (Zb3 hx);simp[vZ,hx]at h3
 exact uD h3.1
def ZfK(c x:Int):Int:=wrap64 ((wrap64 (c*x)).tdiv 100)
def JA(pC ec bK:Int)(ps:List Int):Bool:=td ps&&zu pC 0 100000&&zu ec 0 200000&&zu bK 0 200000&&!decide (bK<=ec)
def tf(ec bK:Int)(ps:List Int):Nat:=if(bK-ec-1) / 1440<(ps.length:Int)then((bK-ec-1) / 1440).toNat else ps.length-1
def yw(pC ec bK:Int)(ps:List Int):Int:=if JA pC ec bK ps then ZfK pC (ps.getD (tf ec bK ps) 0)else 0
def vg(o k:Int)(s:Int)(x:Ln):Int:=if(x.o==o&&x.k==k)=ZC then wrap64 (s+1)else s
def CE(xs:List Ln)(o k:Int):Int:=xs.foldl (vg o k) 0
theorem zl(o k:Int):∀(b:List Ln) (c s:Int),(∀x∈b,1<=x.a/\x.a<=100000)->0<=c->c+b.length<=200->c<=s->s<=100000*c->
 0<=b.foldl (vg o k) c/\b.foldl (vg o k) c<=c+b.length/\b.foldl (vg o k) c<=b.foldl (rR o k) s/\b.foldl (rR o k) s<=100000*b.foldl (vg o k) c
 | [],c,s,_,h0,hl,h1,h2=>⟨h0,by simp,h1,h2⟩
 |x::b,c,s,ha,h0,hl,h1,h2=>by
  have hx:=ha x YJ;simp only[VL]at hl
  have e1:wrap64 (c+1)=c+1:=IntWalk.wrap64_in _ ⟨YG,YG⟩;have e2:wrap64 (s+x.a)=s+x.a:=IntWalk.wrap64_in _ ⟨YG,YG⟩
  by_cases h:(x.o==o&&x.k==k)=ZC
  ·have r:=zl o k b (c+1) (s+x.a) (λy hy=>ha y (by simp[hy])) YG YG YG YG
   simp only[Wj,vg,rR,h,if_true,e1,e2]at r⊢
   refine⟨r.1,?_,r.2.2.1,r.2.2.2⟩;have:=r.2.1;simp only[VL];omega
  ·have r:=zl o k b c s (λy hy=>ha y (by simp[hy])) h0 YG h1 h2
   simp only[Wj,vg,rR,if_neg h]at r⊢
   refine⟨r.1,?_,r.2.2.1,r.2.2.2⟩;have:=r.2.1;simp only[VL];omega
theorem UZ(o k:Int)(ha:∀x∈b,1<=x.a/\x.a<=100000)(hl:b.length<=200):0<=CE b o k/\CE b o k<=b.length/\CE b o k<=eI b o k/\eI b o k<=100000*CE b o k:=by
 have r:=zl o k b 0 0 ha YG YG YG YG;refine⟨r.1,by have:=r.2.1;unfold CE;omega,r.2.2.1,r.2.2.2⟩
/-! ### Zl5 -/
def Cz(xs:List Ln)(i:Nat)(x:Ln):Bool:=!(uE x.o x.k x.a x.t) ||(ZE (0<i)&&ZE (x.t<(xs.getD (i-1) default).t))
def zo(b:List Ln)(x:Ln):Bool:=
 if x.k=1 then !decide (0<eI b x.o 1)
 else if x.k=2 then !decide (eI b x.o 1<wrap64 (eI b x.o 2+x.a))
 else !decide (0<eI b x.o 3)&&(eI b x.o 2==eI b x.o 1)&&!decide (eI b x.o 1<x.a)
def yv(xs:List Ln)(i:Nat):Bool:=!(Cz xs i (xs.getD i default))&&zo (xs.take i) (xs.getD i default)
def gE(xs:List Ln):Bool:=ZE (xs.length<=200)&&Cv xs.length (yv xs)
theorem FB{xs:List Ln}(h:¬xs.length<=200):gE xs=false:=by simp[gE,h]
theorem Qd{xs:List Ln}(h:Cz xs i x=ZD):uE x.o x.k x.a x.t=true:=by
 simp only[Cz,Bool.or_eq_false_iff,Bool.not_eq_false']at h;exact h.1
theorem ZmL(hk:x.k=1):zo b x=!decide (0<eI b x.o 1):=by simp[zo,hk]
theorem ZmM(hk:x.k=2):zo b x=!decide (eI b x.o 1<wrap64 (eI b x.o 2+x.a)):=by simp[zo,hk]
theorem ZmN(hk:x.k=3):zo b x=(!decide (0<eI b x.o 3)&&(eI b x.o 2==eI b x.o 1)&&!decide (eI b x.o 1<x.a)):=by simp[zo,hk]
theorem KH(h:uE x.o x.k x.a x.t=ZC):1<=x.a/\x.a<=100000:=by
 simp only[uE,VN]at h
 exact uD h.1.2
theorem DV{xs:List Ln}(h:Cv i (yv xs)=ZC):∀x∈xs.take i,1<=x.a/\x.a<=100000:=by
 intro x hx;obtain⟨j,hj⟩:=List.getElem?_of_mem hx;rw[List.getElem?_take]at hj
 split at hj
 ·rename_i bO
  have h1:=Ea.1 h j bO;simp only[yv,List.getD_eq_getElem?_getD,hj,Ww,VN,Bool.not_eq_true']at h1
  exact KH (Qd h1.1)
 ·cases hj
theorem UY{xs:List Ln}(o k:Int)(h:Cv i (yv xs)=ZC)(hl:i<=200):ZE (0<CE (xs.take i) o k)=ZE (0<eI (xs.take i) o k):=by
 have r:=UZ o k (DV h) (by rw[List.length_take];omega)
 rw[decide_eq_decide];omega
theorem ZhY(h:uE x.o x.k x.a x.t=ZC):x.k=1\/x.k=2\/x.k=3:=by
 simp only[uE,VN]at h
 have:=uD h.1.1.2;omega
/-! ### RT is ZrE,Zrh,ZmA,Zp0 -/
def Jm(xs:List Ln)(o:Int):Int:=if gE xs then wrap64 (eI xs o 1-eI xs o 2)else 0
theorem ZdI{xs:List Ln}(o k:Int)(h:gE xs=ZC):ZE (0<CE xs o k)=ZE (0<eI xs o k):=by
 simp only[gE,VN,decide_eq_true_eq]at h
 have:=UY (xs:=xs) (i:=xs.length) o k h.2 h.1
 rwa[WA]at this
theorem QV{du en:Int}{ps:List Int}(h:td ps=ZC)(he:¬en<=du):tf du en ps<ps.length:=by
 have:=(Jq h).1;unfold tf
 split<;>omega
@[go_sem] theorem Zo1:BW prog 314:=⟨_,func314,rfl,by kernel_rfl⟩
@[go_sem] theorem Zo2:BW prog 367:=⟨_,func367,rfl,by kernel_rfl⟩
class D6{α β:Type}[eo β](c:α->List PV)(g:α->β):Prop where
 len:∀x,(c x).length=eo.k β
 aO:∀x (j:Nat) (p:PV),(c x)[j]?=ZA p->∃u,(eo.cells (g x))[j]?=ZA u/\p=.v u
theorem ZiL{α β:Type}[eo β]{c:α->List PV}(g:α->β)[hf:D6 c g]{S:Nat->Prop}{xs:List α}{x:Value}(uV:∀b,S b->b<w.heap.size)(h:cf w S (.sl (xs.map c)) x):
 ∃A n,x=.slice A xs.length n/\xs.length<=n/\(xs≠[]->n<=maxLen)/\Rd w w.heap.size A (xs.map g):=by
 generalize hq:PV.sl (xs.map c)=q at h
 cases h with
 |v x h=>cases hq
 |ud=>cases hq
 |un=>cases hq
 |rp=>cases hq
 |fn=>cases hq
 |nil A n=>
  have:xs=[]:=by simpa using hq
  exact⟨A,n,by rw[this];rfl,by rw[this];simp,λh=>absurd this h,by rw[this];exact Rd.Zih⟩
 |sl es b off k n u hS hkp xt hm zq Gf h1 hrr=>
  obtain rfl:xs.map c=es:=by simpa using hq
  refine⟨_,n,by simp,by simpa using xt,λ_=>hm,λdX=>⟨b,off,rfl,uV b hS,λt u' EB=>?_⟩⟩
  have ZkL:xs≠[]:=λe=>dX (by rw[e];rfl)
  have gD:0<xs.length:=XR.2 ZkL;have hk1:k=eo.k β:=((zq 0 (c xs[0]) (by simp[gD])).symm).trans (hf.len _)
  subst hk1;have Znd:0<eo.k β:=hkp;have ht:=(VH.1 EB).1;rw[ux,List.length_map]at ht
  have hi:t / eo.k β<xs.length:=by rw[Nat.div_lt_iff_lt_mul Znd];exact ht
  have hj:=XM t Znd;have e0:t / eo.k β*eo.k β+t % eo.k β=t:=by rw[Nat.mul_comm];exact Nat.div_add_mod t _
  have e1:(xs.map c)[t / eo.k β]?=ZA (c xs[t / eo.k β]):=by simp[hi]
  have e2:(c xs[t / eo.k β])[t % eo.k β]?=ZA ((c xs[t / eo.k β])[t % eo.k β]'(by rw[hf.len];exact hj)):=VF _
  obtain⟨v,hv,hp⟩:=hf.aO _ _ _ e2;have SP:=ym (xs:=xs.map g) (i:=t / eo.k β) (x:=g xs[t / eo.k β]) (by simp[hi]) hv
  rw[e0,EB]at SP
  obtain rfl:=VG SP;have hc:=Gf _ _ _ _ e1 e2;have hz:=hrr _ _ _ _ e1 e2;rw[hp]at hz
  have vF:u (t / eo.k β) (t % eo.k β)=u':=by
   generalize u (t / eo.k β) (t % eo.k β)=z at hz
   cases hz with
   |v _ _=>rfl
  rw[vF]at hc
  rw[<-e0,<-Nat.add_assoc];exact hc
theorem Zmk{vs:Array Value}{x0 x1 x2:Value}(h:vs.size=3)(h0:vs[0]?=ZA x0)(h1:vs[1]?=ZA x1)(h2:vs[2]?=ZA x2):vs=#[x0,x1,x2]:=by
 apply X9 (by simp[h])
 intro i hi h3;have a0:=(VQ.1 h0).2;have a1:=(VQ.1 h1).2;have a2:=(VQ.1 h2).2
 match i,hi with
 |0,_=>simpa using a0
 |1,_=>simpa using a1
 |2,_=>simpa using a2
 |i+3,hi=>omega
theorem Ue{E:Env}{a x:Value}(h:cN w E (.v a) x):x=a:=h.cF.1
theorem JT(xs:List Ln)(x:Ln)(o k:Int):eI (xs++[x]) o k=rR o k (eI xs o k) x:=by simp[eI,X6]
theorem Kn{xs:List Ln}(h:gE xs=ZC):(∀x∈xs,1<=x.a/\x.a<=100000)/\xs.length<=200:=by
 simp only[gE,VN,decide_eq_true_eq]at h
 have:=DV h.2;rw[WA]at this
 exact⟨this,h.1⟩
theorem ZlH{xs:List Ln}(h:gE xs=ZC)(o k:Int):0<=eI xs o k/\eI xs o k<=20000000:=by
 obtain⟨h1,h2⟩:=Kn h;have:=UZ o k h1 h2;omega
theorem LR{xs:List Ln}(h:¬(x.o=o/\x.k=k)):eI (xs++[x]) o k=eI xs o k:=by
 rw[JT];simp only[rR,VN,beq_iff_eq];rw[if_neg h]
theorem Zgw{xs:List Ln}(h1:x.o=o)(h2:x.k=k):eI (xs++[x]) o k=wrap64 (eI xs o k+x.a):=by
 rw[JT];simp[rR,h1,h2]
end Go.Proofs.YtbalgkakkoocjaaGreat
