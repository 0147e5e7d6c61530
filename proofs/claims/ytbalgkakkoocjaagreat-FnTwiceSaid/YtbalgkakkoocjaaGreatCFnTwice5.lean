/- A part of the proof of the statement in the last file of this claim: texts on the language of the program and on its functions. No condition. -/
import Derived.Shelf.Small.Bits
import Derived.Shelf.Strconv.Itoa0
import Derived.Shelf.Sort.Plain
import Derived.Ground.GgsProg
import Derived.Shelf.GgSortFunc.Insertion
import Derived.Shelf.GgSortFunc.InsertionK
import Derived.Shelf.GgSortFunc.Tiny
import Derived.Shelf.GgSortFunc.Compose
import Derived.Ground.GgtProg
import Derived.Shelf.GgSortMore.Stable
import Derived.Shelf.Slices.In.SortNone
import Derived.Shelf.Slices.In.SortNone2
import Derived.Test.YtbalgkakkoocjaaGreatProg
import Derived.Test.YtbalgkakkoocjaaGreatCFnTwice4
import Derived.Shelf.GgSortMore.Iface
import Derived.Sort.OwnSortedInts
import Derived.Test.YtbalgkakkoocjaaGreatCFnTwice1
import Derived.Laws.AppendOwnNone
import Derived.Maps.OwnSet
import Derived.StringKeys
import Derived.Deep.AppendLies
import Derived.Sort.OwnSorted
set_option linter.unusedVariables false
set_option linter.unusedSimpArgs false
set_option linter.unusedSectionVars false
open Option renaming map_eq_some_iff→Ww,bind_eq_some_iff→Yz,bind_some→VS
open Nat renaming le_refl→V3,zero_add→Wb,le_trans→Wq,lt_of_lt_of_le→Xa,not_lt_zero→XV
open List renaming getElem?_eq_getElem→VT,take_of_length_le→Xi,getElem?_map→Wj,getElem?_eq_some_iff→VU,length_pos_iff→X5,foldl_cons→WI,mem_of_getElem?→VW,all_eq_true→V5,getElem?_eq_none→Wy
open _root_.Array renaming getElem?_eq_some_iff→V6,ext→YE
open Option.some renaming inj→VV
open Bool renaming not_true→V0,not_false→Wz
open Int renaming reduceEq→Yo,tmod→XG,toNat→Wo,tdiv→Xk
open BitVec renaming ofInt→Wn
namespace Go.Proofs
open Go.Shelf
def Tryz.Jc:Go.Shelf.Ren:=⟨fun|125=>327|128=>356|129=>357|n=>n,fun|46=>277|3=>3|51=>360|53=>362|4=>4|5=>5|9=>9|n=>n,fun|n=>n⟩
theorem Tryz.UN:Go.Proofs.Lays.n125 Tryz.prog Tryz.Jc:={
 mixed:=by kernel_rfl
 f125:=Tryz.func327.trans (congrArg some (by kernel_rfl))
 f128:=Tryz.func356.trans (congrArg some (by kernel_rfl))
 f129:=Tryz.func357.trans (congrArg some (by kernel_rfl))
 t3:=Tryz.underlying3
 a3:=Tryz.isAgg3
 z3:=Tryz.sizeOf3
 v3:=Tryz.zeroValue3
 t4:=Tryz.underlying4
 a4:=Tryz.isAgg4
 z4:=Tryz.sizeOf4
 v4:=Tryz.zeroValue4
 t5:=Tryz.underlying5
 a5:=Tryz.isAgg5
 z5:=Tryz.sizeOf5
 v5:=Tryz.zeroValue5
 t9:=Tryz.underlying9
 a9:=Tryz.isAgg9
 z9:=Tryz.sizeOf9
 v9:=Tryz.zeroValue9
 t46:=Tryz.underlying277
 a46:=Tryz.isAgg277
 z46:=Tryz.sizeOf277
 v46:=Tryz.zeroValue277
 t51:=Tryz.underlying360
 a51:=Tryz.isAgg360
 z51:=Tryz.sizeOf360
 v51:=Tryz.zeroValue360
 t53:=Tryz.underlying362
 a53:=Tryz.isAgg362
 z53:=Tryz.sizeOf362
 v53:=Tryz.zeroValue362}
theorem Tryz.bits_Len(x:Int)(w:World)(h0:0≤x)(h1:x≤18446744073709551615):
 Calls Tryz.prog 327 #[.int .u64 x] w fun e w'=>e=.returned (.int .i64 (Lib.bitLen x.toNat))∧w'=w:=Any.bits_Len Tryz.UN x w h0 h1
def Tryz.Jd:Go.Shelf.Ren:=⟨fun|192=>267|190=>309|125=>327|258=>326|128=>356|129=>357|302=>347|303=>348|304=>349|305=>350|306=>351|307=>352|308=>353|309=>354|310=>355|333=>370|329=>371|330=>372|334=>373|335=>374|336=>375|344=>382|n=>n,fun|31=>217|0=>0|9=>9|3=>3|46=>277|51=>360|53=>362|4=>4|183=>353|182=>352|131=>156|5=>5|218=>372|222=>376|228=>381|229=>382|n=>n,fun|n=>n⟩
theorem Tryz.UO:Go.Proofs.Lays.n192 Tryz.prog Tryz.Jd:={
 mixed:=by kernel_rfl
 f125:=Tryz.func327.trans (congrArg some (by kernel_rfl))
 f128:=Tryz.func356.trans (congrArg some (by kernel_rfl))
 f129:=Tryz.func357.trans (congrArg some (by kernel_rfl))
 f190:=Tryz.func309.trans (congrArg some (by kernel_rfl))
 f192:=Tryz.func267.trans (congrArg some (by kernel_rfl))
 f258:=Tryz.func326.trans (congrArg some (by kernel_rfl))
 f302:=Tryz.func347.trans (congrArg some (by kernel_rfl))
 f303:=Tryz.func348.trans (congrArg some (by kernel_rfl))
 f304:=Tryz.func349.trans (congrArg some (by kernel_rfl))
 f305:=Tryz.func350.trans (congrArg some (by kernel_rfl))
 f306:=Tryz.func351.trans (congrArg some (by kernel_rfl))
 f307:=Tryz.func352.trans (congrArg some (by kernel_rfl))
 f308:=Tryz.func353.trans (congrArg some (by kernel_rfl))
 f309:=Tryz.func354.trans (congrArg some (by kernel_rfl))
 f310:=Tryz.func355.trans (congrArg some (by kernel_rfl))
 f329:=Tryz.func371.trans (congrArg some (by kernel_rfl))
 f330:=Tryz.func372.trans (congrArg some (by kernel_rfl))
 f333:=Tryz.func370.trans (congrArg some (by kernel_rfl))
 f334:=Tryz.func373.trans (congrArg some (by kernel_rfl))
 f335:=Tryz.func374.trans (congrArg some (by kernel_rfl))
 f336:=Tryz.func375.trans (congrArg some (by kernel_rfl))
 f344:=Tryz.func382.trans (congrArg some (by kernel_rfl))
 t0:=Tryz.underlying0
 a0:=Tryz.isAgg0
 z0:=Tryz.sizeOf0
 v0:=Tryz.zeroValue0
 t3:=Tryz.underlying3
 a3:=Tryz.isAgg3
 z3:=Tryz.sizeOf3
 v3:=Tryz.zeroValue3
 t4:=Tryz.underlying4
 a4:=Tryz.isAgg4
 z4:=Tryz.sizeOf4
 v4:=Tryz.zeroValue4
 t5:=Tryz.underlying5
 a5:=Tryz.isAgg5
 z5:=Tryz.sizeOf5
 v5:=Tryz.zeroValue5
 t9:=Tryz.underlying9
 a9:=Tryz.isAgg9
 z9:=Tryz.sizeOf9
 v9:=Tryz.zeroValue9
 t31:=Tryz.underlying217
 a31:=Tryz.isAgg217
 z31:=Tryz.sizeOf217
 v31:=Tryz.zeroValue217
 t46:=Tryz.underlying277
 a46:=Tryz.isAgg277
 z46:=Tryz.sizeOf277
 v46:=Tryz.zeroValue277
 t51:=Tryz.underlying360
 a51:=Tryz.isAgg360
 z51:=Tryz.sizeOf360
 v51:=Tryz.zeroValue360
 t53:=Tryz.underlying362
 a53:=Tryz.isAgg362
 z53:=Tryz.sizeOf362
 v53:=Tryz.zeroValue362
 t131:=Tryz.underlying156
 a131:=Tryz.isAgg156
 z131:=Tryz.sizeOf156
 v131:=Tryz.zeroValue156
 t182:=Tryz.underlying352
 a182:=Tryz.isAgg352
 z182:=Tryz.sizeOf352
 v182:=Tryz.zeroValue352
 t183:=Tryz.underlying353
 a183:=Tryz.isAgg353
 z183:=Tryz.sizeOf353
 v183:=Tryz.zeroValue353
 t218:=Tryz.underlying372
 a218:=Tryz.isAgg372
 z218:=Tryz.sizeOf372
 v218:=Tryz.zeroValue372
 t222:=Tryz.underlying376
 a222:=Tryz.isAgg376
 z222:=Tryz.sizeOf376
 v222:=Tryz.zeroValue376
 t228:=Tryz.underlying381
 a228:=Tryz.isAgg381
 z228:=Tryz.sizeOf381
 v228:=Tryz.zeroValue381
 t229:=Tryz.underlying382
 a229:=Tryz.isAgg382
 z229:=Tryz.sizeOf382
 v229:=Tryz.zeroValue382}
open Go.Sort Go.RowKit in
theorem Tryz.sort_Strings(nk off cap:Nat)(ss:List (List UInt8))(w:World)(hH:Holds encStr w nk off ss.toArray)(xw:nk<w.heap.size)(Bu:ss.length<4611686018427387904):
 Calls Tryz.prog 267 #[.slice (some ⟨nk,off,none⟩) ss.length cap] w fun e w'=>
  e=.returned (.tuple #[])∧∃n os,w'=grow (putRow encStr (Sort.ahead w n) nk off (ss.mergeSort fun x y=>decide (x≤y)).toArray) os:=Any.sort_Strings Tryz.UO nk off cap ss w hH xw Bu
def Tryz.vD:Go.Shelf.Ren:=⟨fun|8=>275|13=>315|14=>316|16=>318|15=>317|29=>339|30=>340|42=>366|49=>381|n=>n,fun|20=>20|26=>295|36=>323|0=>0|38=>325|42=>329|3=>3|4=>4|47=>277|17=>17|33=>320|34=>321|89=>399|12=>12|56=>360|82=>392|5=>5|83=>393|84=>394|85=>395|86=>396|87=>397|n=>n,fun|n=>n⟩
theorem Tryz.GA:Go.Proofs.LaysGt.n8 Tryz.prog Tryz.vD:={
 mixed:=by kernel_rfl
 f8:=Tryz.func275.trans (congrArg some (by kernel_rfl))
 f13:=Tryz.func315.trans (congrArg some (by kernel_rfl))
 f14:=Tryz.func316.trans (congrArg some (by kernel_rfl))
 f15:=Tryz.func317.trans (congrArg some (by kernel_rfl))
 f16:=Tryz.func318.trans (congrArg some (by kernel_rfl))
 f29:=Tryz.func339.trans (congrArg some (by kernel_rfl))
 f30:=Tryz.func340.trans (congrArg some (by kernel_rfl))
 f42:=Tryz.func366.trans (congrArg some (by kernel_rfl))
 f49:=Tryz.func381.trans (congrArg some (by kernel_rfl))
 t0:=Tryz.underlying0
 a0:=Tryz.isAgg0
 z0:=Tryz.sizeOf0
 v0:=Tryz.zeroValue0
 i0:=by kernel_rfl
 t3:=Tryz.underlying3
 a3:=Tryz.isAgg3
 z3:=Tryz.sizeOf3
 v3:=Tryz.zeroValue3
 i3:=by kernel_rfl
 t4:=Tryz.underlying4
 a4:=Tryz.isAgg4
 z4:=Tryz.sizeOf4
 v4:=Tryz.zeroValue4
 i4:=by kernel_rfl
 t5:=Tryz.underlying5
 a5:=Tryz.isAgg5
 z5:=Tryz.sizeOf5
 v5:=Tryz.zeroValue5
 i5:=by kernel_rfl
 t12:=Tryz.underlying12
 a12:=Tryz.isAgg12
 z12:=Tryz.sizeOf12
 v12:=Tryz.zeroValue12
 i12:=by kernel_rfl
 t17:=Tryz.underlying17
 a17:=Tryz.isAgg17
 z17:=Tryz.sizeOf17
 v17:=Tryz.zeroValue17
 i17:=by kernel_rfl
 t20:=Tryz.underlying20
 a20:=Tryz.isAgg20
 z20:=Tryz.sizeOf20
 v20:=Tryz.zeroValue20
 i20:=by kernel_rfl
 t26:=Tryz.underlying295
 a26:=Tryz.isAgg295
 z26:=Tryz.sizeOf295
 v26:=Tryz.zeroValue295
 i26:=by kernel_rfl
 t33:=Tryz.underlying320
 a33:=Tryz.isAgg320
 z33:=Tryz.sizeOf320
 v33:=Tryz.zeroValue320
 i33:=by kernel_rfl
 t34:=Tryz.underlying321
 a34:=Tryz.isAgg321
 z34:=Tryz.sizeOf321
 v34:=Tryz.zeroValue321
 i34:=by kernel_rfl
 t36:=Tryz.underlying323
 a36:=Tryz.isAgg323
 z36:=Tryz.sizeOf323
 v36:=Tryz.zeroValue323
 i36:=by kernel_rfl
 t38:=Tryz.underlying325
 a38:=Tryz.isAgg325
 z38:=Tryz.sizeOf325
 v38:=Tryz.zeroValue325
 i38:=by kernel_rfl
 t42:=Tryz.underlying329
 a42:=Tryz.isAgg329
 z42:=Tryz.sizeOf329
 v42:=Tryz.zeroValue329
 i42:=by kernel_rfl
 t47:=Tryz.underlying277
 a47:=Tryz.isAgg277
 z47:=Tryz.sizeOf277
 v47:=Tryz.zeroValue277
 i47:=by kernel_rfl
 t56:=Tryz.underlying360
 a56:=Tryz.isAgg360
 z56:=Tryz.sizeOf360
 v56:=Tryz.zeroValue360
 i56:=by kernel_rfl
 t82:=Tryz.underlying392
 a82:=Tryz.isAgg392
 z82:=Tryz.sizeOf392
 v82:=Tryz.zeroValue392
 i82:=by kernel_rfl
 t83:=Tryz.underlying393
 a83:=Tryz.isAgg393
 z83:=Tryz.sizeOf393
 v83:=Tryz.zeroValue393
 i83:=by kernel_rfl
 t84:=Tryz.underlying394
 a84:=Tryz.isAgg394
 z84:=Tryz.sizeOf394
 v84:=Tryz.zeroValue394
 i84:=by kernel_rfl
 t85:=Tryz.underlying395
 a85:=Tryz.isAgg395
 z85:=Tryz.sizeOf395
 v85:=Tryz.zeroValue395
 i85:=by kernel_rfl
 t86:=Tryz.underlying396
 a86:=Tryz.isAgg396
 z86:=Tryz.sizeOf396
 v86:=Tryz.zeroValue396
 i86:=by kernel_rfl
 t87:=Tryz.underlying397
 a87:=Tryz.isAgg397
 z87:=Tryz.sizeOf397
 v87:=Tryz.zeroValue397
 i87:=by kernel_rfl
 t89:=Tryz.underlying399
 a89:=Tryz.isAgg399
 z89:=Tryz.sizeOf399
 v89:=Tryz.zeroValue399
 i89:=by kernel_rfl}
end Go.Proofs
namespace Go.Proofs.YtbalgkakkoocjaaGreat
set_option maxRecDepth 10000
open Go.RowKit
set_option maxRecDepth 100000
abbrev RP(b:Nat):Value:=.pointer (some ⟨b,0,none⟩)
theorem Nj(w:World)(b f:Nat)(sv:Value)(nm:String)(h:w.cell? ⟨b,0,none⟩=some (.iface 316 sv))
 (hm:(((Tryz.prog.info? 338).bind fun i=>i.methods.find? (·.name==nm)).map fun m=>(m.path,m.func))=some (#[⟨340,0,true⟩],none))
 (hi:Sem.run Tryz.prog (method (Tryz.prog.types.size+99) 316 sv nm) w=.ok (f,sv) w):
 Sem.run Tryz.prog (method (Tryz.prog.types.size+100) 338 (RP b) nm) w=.ok (f,sv) w:=by
 obtain⟨m,Kq,AB⟩:=Ww.1 hm
 obtain⟨i,lV,xA⟩:=Yz.1 Kq
 have Ot:m.path=#[⟨340,0,true⟩]:=congrArg Prod.fst AB
 have hfu:m.func=none:=congrArg Prod.snd AB
 have u:=run_underlying Tryz.underlying340
 unfold method
 have hl:Sem.run Tryz.prog (Sem.load Mode.plain ({ block:=b,off:=0}:Addr) Sem.pure) w=.ok (.iface 316 sv) w:=by
  simp[Sem.run,h]
 simp[typeInfo,lV,xA,Ot,hfu,follow,Place.get,u,asAddr,loadVar,isAgg,load,h,fieldPlace]
 rw[show({ block:=b,off:=0}:Addr).add 0={ block:=b,off:=0}from rfl,hl]
 exact hi
theorem Sx(w:World)(b:Nat)(sv:Value)(h:w.cell? ⟨b,0,none⟩=some (.iface 316 sv)):
 Sem.run Tryz.prog (method (Tryz.prog.types.size + 100) 338 (RP b) "Less") w = .ok (405, .agg #[.iface 316 sv]) w := by
 have hm : (((Tryz.prog.info? 338).bind fun i => i.methods.find? (·.name == "Less")).map fun m => (m.path, m.func)) = some (#[], some (405, false)) := by kernel_rfl
 obtain⟨m,Kq,AB⟩:=Ww.1 hm
 obtain⟨i,lV,xA⟩:=Yz.1 Kq
 have Ot:m.path=#[]:=congrArg Prod.fst AB
 have hfu:m.func=some (405,false):=congrArg Prod.snd AB
 have u:=run_underlying Tryz.underlying338
 have u2:=run_underlying Tryz.underlying340
 unfold method
 have sn:Sem.run Tryz.prog (loadVar 340 ⟨b,0,none⟩) w=.ok (.agg #[.iface 316 sv]) w:=by
  have a1:=Tryz.isAgg340
  have a2:=Tryz.sizeOf340
  have hl:Sem.run Tryz.prog (Sem.load Mode.plain ({ block:=b,off:=0}:Addr) Sem.pure) w=.ok (.iface 316 sv) w:=by
   simp[Sem.run,h]
  unfold loadVar loadCells
  simp[a1,a2,loadCellsFrom,load]
  rw[show({ block:=b,off:=0}:Addr).add 0={ block:=b,off:=0}from rfl,hl]
  rfl
 have hk:∀(x y:ByteArray) (w:World),Sem.run Tryz.prog (Builtin.ssaWrapNilChk_ #[338] 338 #[RP b,.string x,.string y]) w=.ok (RP b) w:=fun _ _ _=>rfl
 have hf:Sem.run Tryz.prog (follow [] 338 (Place.val (RP b))) w=.ok (338,Place.val (RP b)) w:=rfl
 have hr:∀x,Sem.run Tryz.prog (receiverAt 338 (Place.val (RP b)) false (some x)) w=.ok (.agg #[.iface 316 sv]) w:=by
  intro x
  unfold receiverAt
  simp[u,Place.get,strVal,hk,asAddr,sn]
 simp[typeInfo,lV,xA,Ot,hfu,hf,hr]
open Go.Lib Go.Sort
set_option maxHeartbeats 4000000
abbrev SV(nk off n c:Nat):Value:=.slice (some ⟨nk,off,none⟩) n c
theorem Zbu (nk off n c : Nat) (w : World) : Sem.run Tryz.prog (method (Tryz.prog.types.size + 99) 316 (SV nk off n c) "Len") w = .ok (400, SV nk off n c) w := by kernel_rfl
theorem UH (nk off n c : Nat) (w : World) : Sem.run Tryz.prog (method (Tryz.prog.types.size + 99) 316 (SV nk off n c) "Swap") w = .ok (403, SV nk off n c) w := by kernel_rfl
theorem UG (nk off n c : Nat) (w : World) : Sem.run Tryz.prog (method (Tryz.prog.types.size + 100) 316 (SV nk off n c) "Less") w = .ok (401, SV nk off n c) w := by kernel_rfl
theorem RG(nk off c size:Nat)(W:World)(G:Nat→Int)(hc:∀t,t<size→W.cell? ⟨nk,off+t,none⟩=some (.int .i64 (G t)))(i j:Nat)(hi:i<size)(hj:j<size)(_hsz:size<4611686018427387904):
 Calls Tryz.prog 401 #[SV nk off size c,.int .i64 i,.int .i64 j] W fun e w'=>e=.returned (.bool (decide (G i<G j)))∧∃q,w'=W.drewN q:=by
 have ci:=hc i hi
 have cj:=hc j hj
 go_enter Tryz.func401,Tryz.ntmps401
 go_wp2
 go_quiet (fail)
 go_wp2
 go_ret
 exact⟨rfl,nq,rfl⟩
theorem RH(nk off c size:Nat)(W:World)(x y:Int)(i j:Nat)(hi:i<size)(hj:j<size)(_hsz:size<4611686018427387904)
 (ci:W.cell? ⟨nk,off+i,none⟩=some (.int .i64 x)) (cj:W.cell? ⟨nk,off+j,none⟩=some (.int .i64 y)) (fi:W.frozen? ⟨nk,off+i,none⟩=false) (fj:W.frozen? ⟨nk,off+j,none⟩=false):
 Calls Tryz.prog 403 #[SV nk off size c,.int .i64 i,.int .i64 j] W fun e w'=>e=.returned (.tuple #[])∧∃q,w'=((W.setCell ⟨nk,off+i,none⟩ (.int .i64 y)).setCell ⟨nk,off+j,none⟩ (.int .i64 x)).drewN q:=by
 obtain⟨v',hy'⟩:=cell?_setCell_some (w:=W) (p:=⟨nk,off+i,none⟩) (x:=.int .i64 y) (q:=⟨nk,off+j,none⟩) cj
 go_enter Tryz.func403,Tryz.ntmps403
 go_wp2
 go_region
 all_goals(try go_wp2)
 all_goals go_end0
 all_goals exact⟨rfl,1,rfl⟩
theorem UI(nk off c size:Nat)(W:World):Calls Tryz.prog 400 #[SV nk off size c] W fun e w'=>e=.returned (.int .i64 size)∧w'=W:=by
 go_enter Tryz.func400,Tryz.ntmps400
 go_wp2
 go_ret
 exact⟨rfl,rfl⟩
theorem Sv(nk off c size:Nat)(W:World)(G:Nat→Int)(hc:∀t,t<size→W.cell? ⟨nk,off+t,none⟩=some (.int .i64 (G t)))(hb:nk<W.heap.size)(i j:Nat)(hi:i<size)(hj:j<size)(Bu:size<4611686018427387904):
 Calls Tryz.prog 405 #[.agg #[.iface 316 (SV nk off size c)],.int .i64 i,.int .i64 j] W fun e w'=>e=.returned (.bool (decide (G j<G i)))∧∃o q,w'=(W.alloc o).drewN q:=by
 have mL:=UG nk off size c
 have eL:∀args w,(callFunc 401 args).run Tryz.prog w=.ok (.enter 401 args) w:=enters_of Tryz.func401 (by kernel_rfl) rfl
 simp at mL
 have hl:∀o,Calls Tryz.prog 401 #[SV nk off size c,.int .i64 j,.int .i64 i] (W.alloc o) fun e w'=>e=.returned (.bool (decide (G j<G i)))∧∃q,w'=(W.alloc o).drewN q:=fun o=>
  RG nk off c size _ G (fun t ht=>(Below.cell (Up.al o (Up.rfl' W)) (p:=⟨nk,off+t,none⟩) hb).trans (hc t ht)) j i hj hi Bu
 go_enter Tryz.func405,Tryz.ntmps405
 go_wp2_with (go_at_fn 401;refine(hl _).mono ?_;rintro e w' ⟨rfl,q,rfl⟩)
 go_ret
 exact⟨rfl,_,q,rfl⟩
theorem SW.Zah{w0 W:World}{nk off:Nat}{dk:Array Int}(h:SW (Value.int .i64) w0 nk off dk W){b o:Nat}(hb:b<w0.heap.size)(iw:b≠nk):W.cell? ⟨b,o,none⟩=w0.cell? ⟨b,o,none⟩:=by
 obtain⟨n,os,rfl⟩:=h
 unfold sortWorld
 rw[cell?_grow _ _ _ (by simpa using hb),cell?_putRow_other _ _ _ _ _ _ (.inl iw)]
 rfl
def Ax(x y:Int):Bool:=decide (y<x)
theorem UE(nk off c b bR:Nat)(d:Array Int)(w:World)(hH:Holds (Value.int .i64) w nk off d)(xw:nk<w.heap.size)(hR:w.cell? ⟨bR,0,none⟩=some (.iface 316 (SV nk off d.size c)))(hRb:bR<w.heap.size)(iw:bR≠nk)
 (Ba:0≤b) (hb:b≤d.size) (Bu:d.size<4611686018427387904):
 Calls Tryz.prog 358 #[.iface 338 (RP bR),.int .i64 0,.int .i64 b] w fun e w'=>e=.returned (.tuple #[])∧SW (Value.int .i64) w nk off (Sort.insertionSort Ax d 0 b) w':=by
 have eL:∀args w,(callFunc 405 args).run Tryz.prog w=.ok (.enter 405 args) w:=enters_of Tryz.func405 (by kernel_rfl) rfl
 have eS:∀args w,(callFunc 403 args).run Tryz.prog w=.ok (.enter 403 args) w:=enters_of Tryz.func403 (by kernel_rfl) rfl
 go_enter Tryz.func358,Tryz.ntmps358
 go_wp2
 go_loopw [6] (fun vi wr=>∃(i:Nat) (dk:Array Int),vi=.int .i64 i∧0<i∧i≤b+1∧dk.size=d.size∧SW (Value.int .i64) w nk off dk wr∧
  insOuter Ax 0 b i dk=insOuter Ax 0 b (0+1) d) (fun vi _=>b+1-(intOf vi).toNat)
 case atStart=>exact⟨1,d,by go_num,by omega,by omega,rfl,SW.start hH,rfl⟩
 case round=>
  obtain⟨i,dk,rfl,hai,hib,hsk,E0,hO⟩:=hrel
  have HO:Hid (insOuter Ax 0 b i dk=insOuter Ax 0 b (0+1) d):=hO
  clear hO
  go_wp2
  ·go_loopw [7] (fun vj wr2=>∃(j:Nat) (dj:Array Int),vj=.int .i64 j∧j≤i∧dj.size=d.size∧SW (Value.int .i64) w nk off dj wr2∧
    insInner Ax 0 j dj=insInner Ax 0 i dk) (fun vj _=>(intOf vj).toNat)
   case atStart=>exact⟨i,dk,rfl,V3 _,hsk,E0,rfl⟩
   case round=>
    obtain⟨j,dj,rfl,wz,hsj,zK,hI⟩:=hrel
    have bF:i<b:=by assumption
    have HW:Hid (SW (Value.int .i64) w nk off dj wr):=zK
    have HI:Hid (insInner Ax 0 j dj=insInner Ax 0 i dk):=hI
    have hHj:=zK.holds xw hH hsj
    have hbw:=zK.lt xw
    have hRw:wr.cell? ⟨bR,0,none⟩=some (.iface 316 (SV nk off d.size c)):=(SW.Zah zK hRb iw).trans hR
    clear zK hI
    have out:(j≤0∨Ax dj[j]! dj[j-1]! = false)→∀W,SW (Value.int .i64) w nk off dj W→∃(i':Nat) (dk':Array Int),Value.int .i64 ((i:Int)+1)=.int .i64 (i':Nat)∧0<i'∧i'≤b+1∧dk'.size=d.size∧
     SW (Value.int .i64) w nk off dk' W∧insOuter Ax 0 b i' dk'=insOuter Ax 0 b (0+1) d:=fun hs W hW=>
     ⟨i+1,dj,by go_num,by omega,by omega,hsj,hW,
      by rw[←HO.out,insOuter_go _ _ _ _ _ bF,←HI.out,insInner_stop _ _ _ _ hs]⟩
    have OUT:Hid _:=out
    clear out
    by_cases hja:0<j
    ·have mL:=Sx wr bR _ hRw
     simp at mL
     have hl:=Sv nk off c d.size wr (fun t=>dj[t]!) (fun t ht=>(hHj t (by omega)).1) hbw j (j-1) (by omega) (by omega) Bu
     rw[show(((j-1:Nat):Int))=(j:Int)-1 by omega]at hl
     have W2:Hid (∀o q,SW (Value.int .i64) w nk off dj ((wr.alloc o).drewN q)):=fun o q=>(HW.out.alloc o).drewN q
     have mS : ∀ o q, Sem.run Tryz.prog (method (Tryz.prog.types.size + 100) 338 (RP bR) "Swap") ((wr.alloc o).drewN q) = .ok (403, SV nk off d.size c) ((wr.alloc o).drewN q) := fun o q =>
      Nj ((wr.alloc o).drewN q) bR 403 (SV nk off d.size c) "Swap" ((SW.Zah (W2.out o q) hRb iw).trans hR) (by kernel_rfl) (UH _ _ _ _ _)
     simp at mS
     have Tk:∀o q,Calls Tryz.prog 403 #[SV nk off d.size c,.int .i64 j,.int .i64 ((j-1:Nat):Int)] ((wr.alloc o).drewN q) fun e w'=>e=.returned (.tuple #[])∧SW (Value.int .i64) w nk off (swp dj j (j-1)) w':=fun o q=>by
      have hh:=(W2.out o q).holds xw hH hsj
      refine(RH nk off c d.size _ _ _ j (j-1) (by omega) (by omega) Bu (hh j (by omega)).1 (hh (j-1) (by omega)).1 (hh j (by omega)).2 (hh (j-1) (by omega)).2).mono ?_
      rintro e w' ⟨rfl,q',rfl⟩
      exact⟨rfl,((W2.out o q).swap xw j (j-1) (by omega) (by omega)).drewN q'⟩
     rw[show(((j-1:Nat):Int))=(j:Int)-1 by omega]at Tk
     change Calls _ _ _ _ fun e w'=>e=.returned (.bool (Ax dj[j]! dj[j-1]!))∧_ at hl
     cases sn:Ax dj[j]! dj[j-1]! with
     |true=>
      rw[sn]at hl
      go_wp2_with (first
       |(go_at_fn 405;refine hl.mono ?_;rintro e w' ⟨rfl,o,q,rfl⟩)
       |(go_at_fn 403;refine(Tk _ _).mono ?_;rintro e w' ⟨rfl,hS⟩))
      go_roundw
      case rel=>
       (repeat apply Exists.intro)
       refine⟨⟨j-1,swp dj j (j-1),by congr 1<;>omega,by omega,by rw[size_swp];exact hsj,hS,?_⟩,by rw[decide_eq_true bF,show((j-1:Nat):Int)=(j:Int)-1 by omega]⟩
       rw[←HI.out,insInner_go Ax 0 j dj hja sn]
      case measure=>simp[intOf];omega
     |false=>
      rw[sn]at hl
      go_wp2_with (go_at_fn 405;refine hl.mono ?_;rintro e w' ⟨rfl,o,q,rfl⟩)
      go_roundw
      case rel=>exact OUT.out (Or.inr sn) _ (W2.out o q)
      case measure=>simp[intOf];omega
    ·go_wp2
     go_roundw
     case rel=>exact OUT.out (Or.inl (by omega)) _ HW.out
     case measure=>simp[intOf];omega
  ·have yz:¬i<b:=by assumption
   go_end0
   exact⟨rfl,by unfold Sort.insertionSort;rw[←HO.out,insOuter_stop _ _ _ _ _ yz];exact E0⟩
end Go.Proofs.YtbalgkakkoocjaaGreat
namespace Go.Proofs.YtbalgkakkoocjaaGreat
set_option maxRecDepth 10000
open Go.RowKit Go.Lib Go.Sort
set_option maxRecDepth 100000
set_option maxHeartbeats 4000000
theorem Zfw(nk off c lim bR:Nat)(d:Array Int)(w:World)(hH:Holds (Value.int .i64) w nk off d)(xw:nk<w.heap.size)(hd:d.size=3)(hR:w.cell? ⟨bR,0,none⟩=some (.iface 316 (SV nk off d.size c)))(hRb:bR<w.heap.size)(iw:bR≠nk):
 Calls Tryz.prog 328 #[.iface 338 (RP bR),.int .i64 0,.int .i64 3,.int .i64 lim] w fun e w'=>e=.returned (.tuple #[])∧SW (Value.int .i64) w nk off (Sort.insertionSort Ax d 0 3) w':=by
 have hi:=UE nk off c 3 bR d w hH xw hR hRb iw (by omega) (by omega) (by omega)
 rw[show((3:Nat):Int)=3 from rfl]at hi
 clear hH hR
 go_enter Tryz.func328,Tryz.ntmps328
 go_wp2
 go_loopw [1,2] (fun v1 v2 wr=>v1=.int .i64 0∧v2=.int .i64 3∧wr=w) (fun _ _ _=>0)
 case atStart=>exact⟨rfl,rfl,rfl⟩
 case round=>
  obtain⟨rfl,rfl,rfl⟩:=hrel
  go_wp2_with (go_at_call 358;refine hi.mono ?_;rintro e w' ⟨rfl,hS⟩)
  (try simp only[Exit.inBlock,Exit.then])
  refine bodyPost_ret (results_none rfl _ _ _) rfl ?_
  exact⟨rfl,hS⟩
theorem SO(nk off c bR:Nat)(d:Array Int)(w:World)(hH:Holds (Value.int .i64) w nk off d)(xw:nk<w.heap.size)(hd:d.size=3)(hR:w.cell? ⟨bR,0,none⟩=some (.iface 316 (SV nk off d.size c)))(hRb:bR<w.heap.size)(iw:bR≠nk):
 Calls Tryz.prog 310 #[.iface 338 (RP bR)] w fun e w'=>e=.returned (.tuple #[])∧SW (Value.int .i64) w nk off (Sort.insertionSort Ax d 0 3) w':=by
 have mN := Nj w bR 400 (SV nk off d.size c) "Len" hR (by kernel_rfl) (Zbu _ _ _ _ _)
 simp at mN
 have eN:∀args w,(callFunc 400 args).run Tryz.prog w=.ok (.enter 400 args) w:=enters_of Tryz.func400 (by kernel_rfl) rfl
 have hN:=UI nk off c d.size w
 have hL:=Tryz.bits_Len 3 w (by omega) (by omega)
 have hp:=fun lim=>Zfw nk off c lim bR d w hH xw hd hR hRb iw
 rw[hd]at mN hN
 rw[show((3:Nat):Int)=3 from rfl]at hN
 clear hH hR
 go_enter Tryz.func310,Tryz.ntmps310
 go_wp2_with (first
  |(go_at_fn 400;refine hN.mono ?_;rintro e w' ⟨rfl,rfl⟩)
  |(go_at_call 327;refine hL.mono ?_;rintro e w' ⟨rfl,rfl⟩)
  |(go_at_call 328;refine(hp _).mono ?_;rintro e w' ⟨rfl,hS⟩))
 all_goals first
  |(exfalso;omega)
  |(go_end0;exact⟨rfl,hS⟩)
end Go.Proofs.YtbalgkakkoocjaaGreat
namespace Go.Proofs.YtbalgkakkoocjaaGreat
set_option maxRecDepth 10000
open Go.RowKit
variable {A:Option Addr}{B E base bytes c cap e g k m n t:Nat}{P:Program}{Q:Exit→Act→World→Prop}{a:Act}{o:Oper}{row:Option Nat}{v:Value}{w w' w0:World}{α:Type}{ys:List α}
structure P3(P:Program)(t e:TypeId)(k bytes:Nat):Prop where
 ht:P.underlying t=some (.slice e)
 info:∃i z,P.info? e=some i∧i.zero=some z∧i.size=k∧i.bytes=bytes∧z.cells.size=k
theorem P3.mk'{t e:TypeId}{z:Value}(ht:P.underlying t=some (.slice e))(h:(P.info? e).map (fun i=>(i.zero,i.size,i.bytes))=some (some z,k,bytes))(hz:z.cells.size=k):P3 P t e k bytes:=by
 obtain⟨i,h1,h2,h3,h4⟩:=info_parts h
 exact⟨ht,i,z,h1,h2,h3,h4,hz⟩
theorem Own.form[dT α]{xs:List α}(h:Own w B E v xs):∃A c,v=.slice A xs.length c∧xs.length≤c∧c≤maxLen:=by
 rcases h.2 with⟨hv,h0⟩ |⟨g,cap,cur,hv,_,_,wU,IZ,_⟩
 ·exact⟨none,0,by rw[hv,h0],by omega,by unfold maxLen;omega⟩
 ·exact⟨_,cap,hv,wU,IZ⟩
theorem Own.U2[dT α](w:World)(B E:Nat):Own w B E (.slice none 0 0) ([]:List α):=World.ownsRow_nil _ _ _ _
theorem Own.empty[dT α](w:World)(B E c:Nat)(cur:Array Value)(hB:B≤w.heap.size)(hm:c≤maxLen)(hs:cur.size=c*dT.k α):
 Own (w.alloc (.cells cur E)) B E (.slice (some ⟨w.heap.size,0,none⟩) 0 c) ([]:List α):=World.ownsRow_made w cur c hB hm hs
theorem Own.more[dT α]{B B' E:Nat}{xs:List α}(h:Own w B E v xs)(hB:B'≤B):Own w B' E v xs:=by
 refine⟨h.1,?_⟩
 rcases h.2 with h2|⟨g,cap,cur,hv,hb,r⟩
 ·exact .inl h2
 ·exact .inr ⟨g,cap,cur,hv,by omega,r⟩
theorem Own.down[dT α]{w0 W w:World}{xs:List α}(h:Own w W.heap.size E v xs)(hu:Up w0 W):Own w w0.heap.size E v xs:=h.more hu.size
theorem Up.le(h:Up w0 w):w0.heap.size≤w.heap.size:=h.size
theorem Own.grown[dT α]{xs:List α}(h:Own w B E v xs)(hg:w.grownBy w' row)(iw:v.ownBlock=none∨v.ownBlock≠row):Own w' B E v xs:=
 World.ownsRow.kept h hg iw
theorem Rd.one[dT α](w:World)(T:TypeId)(x:α)(B:Nat)(hB:w.heap.size<B):Rd (w.alloc (.cells (dT.cells x).toArray T)) B (some ⟨w.heap.size,0,none⟩) [x]:=by
 intro _
 refine⟨w.heap.size,0,rfl,hB,fun j u hu=>?_⟩
 rw[Q1]at hu
 rw[Wb,cell_of_row _ _ j _ T (0,0) (heap_alloc_new w _)]
 simpa using hu
def nM(w0 w:World)(B E k:Nat)(g n cap m:Nat)(ys:List Value):Prop:=
 ∃cs:List Value,w.ownsRow B E k (.slice (some ⟨g,0,none⟩) n cap) n cs∧cs.take m=ys.take m∧w0.grownBy w (some g)
theorem nM.start{cs ys:List Value}(h:w.ownsRow B E k (.slice (some ⟨g,0,none⟩) n cap) n cs):nM w w B E k g n cap 0 ys:=
 ⟨cs,h,by simp,⟨rfl,rfl,rfl,V3 _,fun _ _ _=>rfl⟩⟩
theorem nM.cell{ys:List Value}(h:nM w0 w B E k g n cap m ys){j:Nat}(hj:j<n*k):∃u,w.cell? ⟨g,j,none⟩=some u:=by
 obtain⟨cs,ho,_⟩:=h
 have hl:cs.length=n*k:=ho.1
 exact⟨cs[j]'(by omega),by rw[ho.cellAt j hj];exact VT _⟩
theorem nM.frozen{ys:List Value}(h:nM w0 w B E k g n cap m ys)(j:Nat):w.frozen? ⟨g,j,none⟩=false:=by
 obtain⟨cs,ho,_⟩:=h
 exact ho.frozenAt j
theorem D3{a b c:World}(h:a.grownBy b row)(k:b.grownBy c row):a.grownBy c row:=
 ⟨k.os.trans h.os,k.tape.trans h.tape,k.output.trans h.output,Wq h.size k.size,fun i hi iw=>(k.block i (Xa hi h.size) iw).trans (h.block i hi iw)⟩
theorem nM.ZfD{ys:List Value}(h:nM w0 w B E k g n cap m ys)(hm:m<n*k)(hy:ys[m]?=some v):
 nM w0 (w.setCell ⟨g,m,none⟩ v) B E k g n cap (m+1) ys:=by
 obtain⟨cs,ho,ht,hg⟩:=h
 have hl:cs.length=n*k:=ho.1
 obtain⟨h1,h2⟩:=ho.stored m v
 exact⟨cs.set m v,h1,xj (by omega) hy ht,D3 hg h2⟩
theorem nM.drewN{w0 w:World}{B E k g n cap m:Nat}{ys:List Value}(h:nM w0 w B E k g n cap m ys)(q:Nat):nM w0 (w.drewN q) B E k g n cap m ys:=by
 obtain⟨cs,ho,ht,hg⟩:=h
 exact⟨cs,ho,ht,⟨hg.os,hg.tape,hg.output,hg.size,hg.block⟩⟩
theorem nM.own[dT α](h:nM w0 w B E (dT.k α) g n cap (n*dT.k α) (flat ys))(hn:ys.length=n):Own w B E (.slice (some ⟨g,0,none⟩) n cap) ys∧w0.grownBy w (some g):=by
 obtain⟨cs,ho,ht,hg⟩:=h
 have hl:cs.length=n*dT.k α:=ho.1
 have e1:(flat ys).take (n*dT.k α)=flat ys:=Xi (by rw[nZ,hn];exact V3 _)
 rw[e1,Xi (by omega)]at ht
 subst ht
 refine⟨?_,hg⟩
 unfold Own
 rw[hn]
 exact ho
theorem Qj(b o j:Nat):(⟨b,o,none⟩:Addr).add j=⟨b,o+j,none⟩:=by unfold Addr.add;split<;>simp_all
theorem xR[dT α](w:World){t ty e:Nat}{i:TypeInfo}(ht:P.underlying t=some (.slice e))(hi:P.info? e=some i)(pZ:Own w base e v ys)(c:Nat):
 (Builtin.append_ #[t,t] ty #[v,.slice none 0 c]).run P w=.ok v w:=by
 rcases pZ.2 with⟨rfl,h0⟩ |⟨g,cap,cur,rfl,_,_,wU,_⟩
 ·simp[Builtin.append_,run_underlying ht,sizeOf,typeInfo,hi,Builtin.lenOf,Builtin.firstCells]
 ·simp[Builtin.append_,run_underlying ht,sizeOf,typeInfo,hi,Builtin.lenOf,Builtin.firstCells,wU,storeCells]
theorem Ep[dT α](w:World){t ty e bytes:Nat}(T:P3 P t e (dT.k α) bytes)(pZ:Own w base e v ys)
 {xs:List α} (hr:Rd w B A xs) (mg:(ys.length+xs.length)*bytes≤140737488355328) (h63:ys.length+xs.length≤maxLen) (IY:base≤w.heap.size):
 ∃v' w',(Builtin.append_ #[t,t] ty #[v,.slice A xs.length c]).run P w=.ok v' w'∧Own w' base e v' (ys++xs)∧w.grownBy w' v.ownBlock∧(v'.ownBlock=v.ownBlock∨v'.ownBlock=some w.heap.size):=by
 obtain⟨i,z,hi,hz,hs,hb,hzs⟩:=T.info
 cases A with
 |none=>
  have hx:xs=[]:=by
   rcases Classical.em (xs=[])with h|h
   ·exact h
   ·obtain⟨_,_,h',_⟩:=hr h
    cases h'
  subst hx
  have jh:=xR (P:=P) w (ty:=ty) T.ht hi pZ c
  exact⟨v,w,by simpa using jh,by simpa using pZ,⟨rfl,rfl,rfl,V3 _,fun _ _ _=>rfl⟩,.inl rfl⟩
 |some ad=>
  have MP:∀j u,(flat xs)[j]?=some u→w.cell? (ad.add j)=some u:=by
   intro j u hu
   have iw:xs≠[]:=by rintro rfl;simp[flat]at hu
   obtain⟨b,off,hA',_,hc⟩:=hr iw
   injection hA' with hA'
   subst hA'
   rw[Qj]
   exact hc j u hu
  obtain⟨v',w',jh,h2,h3,_,h5⟩:=run_append_own_at (P:=P) w base t ty e i z (dT.k α) bytes T.ht hi hz hs hb hzs dT.pos v ys.length (flat ys) pZ ad xs.length c (flat xs) (nZ xs) MP (Gd xs) h63 mg IY
  refine⟨v',w',jh,?_,h3,h5⟩
  have e1:(ys++xs).length=ys.length+xs.length:=List.length_append
  unfold Own
  rw[e1,IN]
  exact h2
theorem Up.Za2[dT α](h:Up w0 w)(hg:w.grownBy w' v.ownBlock)(pZ:Own w base e v ys)(hb:w0.heap.size≤base):Up w0 w':=
 Below.grown h hg h.size (fun k hk=>Wq hb (World.ownsRow.lt pZ k hk).1)
theorem Hr[dT α]{K:Act→World→Prop}(T:P3 P t e (dT.k α) bytes)
 (s x:Operand) (ho:o.op=.call { callee:=.builtin .append,args:=#[s,x],argTypes:=#[t,t]})
 (hs:a.eval s=v) (pZ:Own w base e v ys)
 {xs:List α} (n:Nat) (hx:a.eval x=.slice A n c) (hn:n=xs.length) (hr:Rd w B A xs)
 (mg:(ys.length+xs.length)*bytes≤140737488355328) (h63:ys.length+xs.length≤maxLen) (IY:base≤w.heap.size)
 (h:∀v' w',Own w' base e v' (ys++xs)→w.grownBy w' v.ownBlock→(v'.ownBlock=v.ownBlock∨v'.ownBlock=some w.heap.size)→(∀w0,w0.heap.size≤base→Up w0 w→Up w0 w')→K (a.put o.dst v') w'):
 o.wp P a w K Q:=by
 subst hn
 obtain⟨v',w',jh,h2,h3,h4⟩:=Ep (P:=P) w (ty:=o.type) (c:=c) T pZ hr mg h63 IY
 unfold Oper.wp execOp
 simp only[ho,resolve,invoke,builtin,Sem.run_bind,Sem.run_pure,Result.andThen_ok,List.map_toArray,List.map_cons,List.map_nil,hs,hx,jh]
 exact h v' w' h2 h3 h4 fun w0 hb hu=>Up.Za2 hu h3 pZ hb
theorem cX[dT α]{ops:Array Oper}{rest:List Oper}(T:P3 P t e (dT.k α) bytes)
 (hgd:o.guard=none) (s x:Operand) (ho:o.op=.call { callee:=.builtin .append,args:=#[s,x],argTypes:=#[t,t]})
 (hs:a.eval s=v) (pZ:Own w base e v ys)
 {xs:List α} (n:Nat) (hx:a.eval x=.slice A n c) (hn:n=xs.length) (hr:Rd w B A xs)
 (mg:(ys.length+xs.length)*bytes≤140737488355328) (h63:ys.length+xs.length≤maxLen) (IY:base≤w.heap.size)
 (h:∀v' w',Own w' base e v' (ys++xs)→w.grownBy w' v.ownBlock→(v'.ownBlock=v.ownBlock∨v'.ownBlock=some w.heap.size)→(∀w0,w0.heap.size≤base→Up w0 w→Up w0 w')→wpList P ops Q rest (a.put o.dst v') w'):
 wpList P ops Q (o::rest) a w:=
 wpList_plain hgd fun _ hK=>Hr T s x ho hs pZ n hx hn hr mg h63 IY fun v' w' h2 h3 h4 h5=>hK _ _ (h v' w' h2 h3 h4 h5)
end Go.Proofs.YtbalgkakkoocjaaGreat
namespace Go.Proofs.YtbalgkakkoocjaaGreat
set_option maxRecDepth 10000
open Go.RowKit Go.Lib Go.Sort
set_option maxRecDepth 100000
set_option maxHeartbeats 4000000
theorem T6:P3 Tryz.prog 25 3 (dT.k Int) 8:=P3.mk' (z:=.int .i64 0) Tryz.underlying25 (by kernel_rfl) rfl
theorem xv(ls:List Int):flat ls=ls.map (Value.int .i64):=by
 induction ls with
 |nil=>rfl
 |cons x xs ih=>rw[tN,ih];rfl
theorem Zfs{w:World}{B:Nat}{v:Value}{xs:List Int}(h:Own w B 3 v xs)(hl:xs.length=3):∃g cap cur,v=.slice (some ⟨g,0,none⟩) 3 cap∧B≤g∧w.heap[g]?=some (.cells cur 3 (0,0))∧3≤cap∧cap≤maxLen∧cur.size=cap*1∧cur.toList.take 3=xs.map (Value.int .i64):=by
 rcases h.2 with⟨_,h0⟩ |⟨g,cap,cur,hv,hB,hg,wU,IZ,qF,ht⟩
 ·omega
 ·rw[hl]at hv wU ht
  rw[xv]at ht
  exact⟨g,cap,cur,hv,hB,hg,wU,IZ,qF,ht⟩
theorem Sw(W:World)(sv:Value):Calls Tryz.prog 311 #[.iface 316 sv] W fun e w'=>e=.returned (.iface 338 (RP W.heap.size))∧w'=W.alloc (.cells #[.iface 316 sv] 340):=by
 go_enter Tryz.func311,Tryz.ntmps311
 go_wp2
 go_ret
 exact⟨rfl,rfl⟩
def Bg(xs:List Int):List Int:=(Sort.insertionSort Ax xs.toArray 0 3).toList
theorem xh(lt:Int→Int→Bool)(a:Nat):∀(j:Nat) (d:Array Int),(insInner lt a j d).size=d.size
 |0,d=>rfl
 |j+1,d=>by
  unfold insInner
  split
  ·rw[xh lt a j,size_swp]
  ·rfl
theorem xi(lt:Int→Int→Bool)(a b:Nat):∀(n i:Nat) (d:Array Int),b-i≤n→(insOuter lt a b i d).size=d.size
 |0,i,d,h=>by rw[insOuter,if_neg (by omega)]
 |n+1,i,d,h=>by
  rw[insOuter]
  split
  ·rw[xi lt a b n (i+1) _ (by omega),xh]
  ·rfl
theorem J5(xs:List Int):(Bg xs).length=xs.length:=by
 unfold Bg Sort.insertionSort
 rw[Array.length_toList,xi _ _ _ 3 _ _ (by omega)]
 simp
theorem Er(A:Option Addr)(xs:List Int)(c:Nat)(w:World)(hr:Rd w w.heap.size A xs)(hl:xs.length=3):
 Calls Tryz.prog 272 #[.slice A 3 c] w fun e w'=>∃v,e=.returned v∧Own w' w.heap.size 3 v (Bg xs)∧Up w w':=by
 go_enter Tryz.func272,Tryz.ntmps272
 go_wp2_with (at_builtin;refine cX T6 rfl (.tmp 4) (.tmp 5) rfl (base:=w.heap.size) (ys:=[]) (by rfl) (Own.empty w _ _ 0 _ (V3 _) (by unfold maxLen;omega) rfl) 3 (by rfl) hl.symm (hr.up (by(repeat(first|exact Up.rfl' _|(refine Up.al _ ?_) |(refine Up.dr _ ?_) |(refine Up.xY ?_) |(refine Up.sc ?_ (by first|exact V3 _|(simp;done) |omega) _) |(refine Up.step (by assumption) ?_))))) (by simp;omega) (by unfold maxLen;simp;omega) (by first|(simp;done) |(simp;omega) |(have h_:=hB.size;omega) |(have h_:=hB.size;simp;omega)) ?_;intro v' w1 x6 hg1 _ Kr;refine Hid.out ?_)
 refine Lib.hid ?_
 have ho:Own w1 w.heap.size 3 v' xs:=by simpa using x6
 have hu:=Kr w (V3 _) (by(repeat(first|exact Up.rfl' _|(refine Up.al _ ?_) |(refine Up.dr _ ?_) |(refine Up.xY ?_) |(refine Up.sc ?_ (by first|exact V3 _|(simp;done) |omega) _) |(refine Up.step (by assumption) ?_))))
 obtain⟨g,cap,cur,rfl,hgB,Uq,h3,IZ,qF,hct⟩:=Zfs ho hl
 have sE:g<w1.heap.size:=(V6.1 Uq).1
 have hRv:=Sw w1 (SV g 0 3 cap)
 have PQ:∀o,(w1.alloc o).heap[g]?=some (.cells cur 3 (0,0)):=fun o=>(Below.block (Up.al o (Up.rfl' w1)) g sE).trans Uq
 have Bu:∀o,(w1.alloc o).heap.size=w1.heap.size+1:=fun o=>by simp
 have hS:∀o,o=Obj.cells #[.iface 316 (SV g 0 3 cap)] 340 (0,0)→_:=fun o ho=>SO g 0 cap w1.heap.size xs.toArray (w1.alloc o) (holds_of_blockI (PQ o) (by rw[hl];exact hct)) (by rw[Bu];omega) (by simp[hl]) (by subst ho;rw[cell_of_row _ _ 0 _ _ (0,0) (heap_alloc_new w1 _)];simp[hl]) (by rw[Bu];omega) (by omega)
 have D4:=hS _ rfl
 clear hS
 go_wp2_with (first
  |(go_at_call 311;refine hRv.mono ?_;rintro e w' ⟨rfl,rfl⟩)
  |(go_at_call 310;refine D4.mono ?_;rintro e w' ⟨rfl,hSW⟩))
 go_ret
 obtain⟨n,os,rfl⟩:=hSW
 have bF:(Bg xs).length=xs.length:=J5 xs
 have pZ:=ownsRow_sortedI (n:=n) (os:=os) (ss:=xs) (ts:=Bg xs) bF hgB (PQ (Obj.cells #[.iface 316 (SV g 0 3 cap)] 340 (0,0))) (by omega) IZ qF
 refine⟨_,rfl,?_,?_⟩
 ·unfold Own
  rw[bF,xv]
  rw[hl]at pZ⊢
  unfold Bg at pZ⊢
  exact pZ
 ·have KZ:=grownBy_sortedI (w:=w1.alloc (Obj.cells #[.iface 316 (SV g 0 3 cap)] 340 (0,0))) (g:=g) (n:=n) (os:=os) (Sort.insertionSort Ax xs.toArray 0 3)
  have K6:=Up.al (Obj.cells #[.iface 316 (SV g 0 3 cap)] 340 (0,0)) hu
  exact⟨KZ.os.trans K6.os,KZ.tape.trans K6.tape,KZ.output.trans K6.output,Wq K6.size KZ.size,fun b hb=>(KZ.block b (Xa hb K6.size) (by simp;omega)).trans (K6.block b hb)⟩
end Go.Proofs.YtbalgkakkoocjaaGreat
namespace Go.Proofs.YtbalgkakkoocjaaGreat
set_option maxRecDepth 10000
open Go.RowKit
theorem zP{α:Type}[dT α]{c:α→List PV}{T:TypeId}{S:Nat→Prop}{β:Nat→Option qa}{w w':World}{v:Value}{ys:List α}{ω:Nat→Key→Prop}(hk:Ok w (nL β) (E1 S β 0 ω) w [])(ho:Own w' w.heap.size T v ys)(hu:Up w w')
 (hc:∀(x:α),(c x).length=dT.k α∧∀(j:Nat) (p:PV),(c x)[j]?=some p→∃u,(dT.cells x)[j]?=some u∧u.oneCell'=true∧∀(w:World) (E:Env),dL w E p u):
 ∃E',Ok w (nL β) E' w' [some ⟨T,dT.k α,ys.map c⟩]∧(∀b,S b→E'.S b)∧(∀b,E'.S b→S b∨w.heap.size≤b∨nL β b)∧((∀l B,l<0→E'.β l=some B→β l=some B)∧∀b q,E'.ω b q→ω b q∨w.heap.size≤b∨nL β b)∧dL w' E' (.ms 0) v:=by
 have Zc3:∀(i:Nat) (cs:List PV),(ys.map c)[i]?=some cs→cs.length=dT.k α:=by
  intro i cs hi
  rw[Wj]at hi
  obtain⟨y,_,rfl⟩:=Ww.1 hi
  exact(hc y).1
 have key:∀(B:qa),v=B.sv→v.oneCell'=true→(B.z=false→w.heap.size≤B.b∧B.b<w'.heap.size)→(∀E,gb w' E ⟨T,dT.k α,ys.map c⟩ B)→
  ∃E',Ok w (nL β) E' w' [some ⟨T,dT.k α,ys.map c⟩]∧(∀b,S b→E'.S b)∧(∀b,E'.S b→S b∨w.heap.size≤b∨nL β b)∧((∀l B,l<0→E'.β l=some B→β l=some B)∧∀b q,E'.ω b q→ω b q∨w.heap.size≤b∨nL β b)∧dL w' E' (.ms 0) v:=by
  intro B hv h1 hB hb
  obtain⟨h2,_⟩:=hk.new (ν:=0) (fun h=>absurd h (XV 0)) ⟨T,dT.k α,ys.map c⟩ B hu.os hu.tape hu.output hu.size (fun b hb=>hu.block b hb) hB (fun _=>hb _)
  refine⟨_,h2,fun b h=>h,fun b h=>.inl h,⟨fun l B h=>absurd h (XV l),fun _ _ h=>.inl h⟩,.ms 0 v (.inl rfl) h1 fun B' kL=>?_⟩
  have:B'=B:=by simpa[Env.add,eq_comm]using kL
  rw[this];exact hv
 rcases ho.2 with⟨hv,h0⟩ |⟨g,cap,cur,hv,hB,hg,wU,IZ,qF,ht⟩
 ·have hy:ys=[]:=List.length_eq_zero_iff.1 h0
  subst hy
  exact key ⟨0,0,0,dT.k α,T,true⟩ (by rw[hv];rfl) (by rw[hv];rfl) (fun h=>by cases h) fun E=>⟨rfl,rfl,rfl,dT.pos,V3 _,Nat.zero_le _,Zc3,fun _=>rfl,fun h=>(by cases h),fun _ h=>by cases h⟩
 ·refine key ⟨g,cap,ys.length,dT.k α,T,false⟩ (by rw[hv];rfl) (by rw[hv];rfl) (fun _=>⟨hB,(V6.1 hg).1⟩) fun E=>⟨rfl,by simp,rfl,dT.pos,wU,IZ,Zc3,(fun h=>by cases h),fun _=>⟨cur,hg,qF,fun i cs j p hi hj=>?_⟩,fun _ h=>by cases h⟩
  rw[Wj]at hi
  obtain⟨y,hy,rfl⟩:=Ww.1 hi
  obtain⟨hl,zH⟩:=hc y
  obtain⟨u,Kr,K6,hu3⟩:=zH j p hj
  refine⟨u,?_,K6,hu3 _ _⟩
  have hf:=uy hy Kr
  have bF:=(VU.1 hf).1
  rw[nZ]at bF
  have:=congrArg (fun l:List Value=>l[i*dT.k α+j]?) ht
  have h2:(cur.toList.take (ys.length*dT.k α))[i*dT.k α+j]?=(flat ys)[i*dT.k α+j]?:=this
  rw[List.getElem?_take_of_lt bF,Array.getElem?_toList,hf]at h2
  exact h2
end Go.Proofs.YtbalgkakkoocjaaGreat
namespace Go.Proofs.YtbalgkakkoocjaaGreat
set_option maxRecDepth 10000
open Go.RowKit Go.Lib
def mq(l:List Int):Option (List Int):=if l.length=3 then some (Bg l)else none
theorem Vj{w:World}{S:Nat→Prop}{xs:List Int}{x:Value}(Bu:∀b,S b→b<w.heap.size)(h:fA w S (.sl (xs.map aG)) x):∃A c,x=.slice A xs.length c∧xs.length≤c∧Rd w w.heap.size A xs:=by
 generalize hq:PV.sl (xs.map aG)=q at h
 cases h with
 |v x h=>cases hq
 |ud=>cases hq
 |un=>cases hq
 |rp=>cases hq
 |fn=>cases hq
 |nil A c=>
  have:xs=[]:=by simpa using hq
  exact⟨A,c,by rw[this];rfl,by rw[this];simp,by rw[this];exact Rd.U2⟩
 |sl es b off k c u hS hkp wU hm xx zH h1 hrr=>
  obtain rfl:xs.map aG=es:=by simpa using hq
  refine⟨_,c,by simp,by simpa using wU,fun iw=>⟨b,off,rfl,Bu b hS,fun j u' x7=>?_⟩⟩
  have gz:0<xs.length:=X5.2 iw
  have Us:k=1:=(xx 0 (aG xs[0]) (by simp[gz])).symm
  subst Us
  rw[xv]at x7
  rw[Wj]at x7
  obtain⟨y,hy,rfl⟩:=Ww.1 x7
  have hj:=(VU.1 hy).1
  have e1:(xs.map aG)[j]?=some (aG y):=by rw[Wj,hy];rfl
  have hc:=zH j _ 0 (vi y) e1 rfl
  have hz:=hrr j _ 0 (vi y) e1 rfl
  have tT:u j 0=.int .i64 y:=by
   generalize hp:u j 0=z at hz
   cases hz with
   |v _ _=>rfl
  rw[tT]at hc
  rw[show off+j=off+j*1+0 by omega]
  exact hc
theorem yU(l:List Int){r:List Int}(H:mq l=some r):iZ Tryz.prog 272 [.sl (l.map aG)] [] (.ms 0) [some ⟨.of 3,1,r.map aG⟩]:=by
 unfold mq at H
 split at H
 case isFalse=>cases H
 rename_i hl3
 obtain rfl:=VV H
 intro S β w vs ω hk hl ha
 obtain⟨x,hx0,hr⟩:=ha 0 _ rfl
 have hv:vs=#[x]:=by
  have h1:vs.size=1:=hl
  apply YE (by simp[h1])
  intro i h2 h3
  have:i=0:=by omega
  subst this
  have:=(V6.1 hx0).2
  simpa using this
 subst hv
 have hr0:fA w S (.sl (l.map aG)) x:=by cases hr with|c h=>exact h
 obtain⟨A,c,rfl,ZcW,Tj⟩:=Vj hk.sz hr0
 rw[hl3]
 refine(Er A l c w Tj hl3).mono ?_
 rintro e w' ⟨v,rfl,ho,hu⟩
 obtain⟨E',h1,h2,h3,h4,h5⟩:=zP (c:=aG) hk ho hu (fun x=>⟨rfl,fun j p hj=>by
  cases j with
  |zero=>obtain rfl:vi x=p:=by simpa using hj
         exact⟨_,rfl,rfl,fun w E=>.c (.v _ rfl)⟩
  |succ j=>simp[aG]at hj⟩)
 exact⟨v,E',rfl,h1,h2,h3,h4,h5⟩
instance (l:List Int):CT Tryz.prog (mq l):=⟨272,[.sl (l.map aG)],[],fun r=>.ms 0,fun r=>[some ⟨.of 3,1,r.map aG⟩],yU l⟩
end Go.Proofs.YtbalgkakkoocjaaGreat
namespace Go.Proofs.YtbalgkakkoocjaaGreat
set_option maxRecDepth 10000
open Go.RowKit
instance:dT ByteArray where
 cells x:=[.string x]
 k:=1
 len _:=rfl
 pos:=by decide
 one:=by simp[Value.oneCell']
theorem EO(ls:List ByteArray):flat ls=ls.map Value.string:=by
 induction ls with
 |nil=>rfl
 |cons x xs ih=>rw[tN,ih];rfl
end Go.Proofs.YtbalgkakkoocjaaGreat
namespace Go.Proofs.YtbalgkakkoocjaaGreat
set_option maxRecDepth 10000
open Go.RowKit Go.Maps Go.WideMaps
variable {Q:Exit→Act→World→Prop}{a:Act}{o:Oper}{ops:Array Oper}{rest:List Oper}
def Ow(S:List ByteArray)(s:ByteArray):Bool:=S.any fun y=>decide (y=s)
theorem MU{S:List ByteArray}{s:ByteArray}:Ow S s=true↔s∈S:=by simp[Ow]
theorem I8(S:List ByteArray)(s s':ByteArray):Ow (S++[s]) s'=(Ow S s' ||decide (s=s')):=by simp[Ow]
def dd(out:List ByteArray)(s:ByteArray):List ByteArray:=if Ow out s=true then out else out++[s]
def ix(n:aj):List ByteArray:=n.ay.flatMap fun l=>[l.ar,l.aV]
theorem jA{w w':World}{row:Option Nat}(h:w.grownBy w' row){b o:Nat}(hb:b<w.heap.size)(iw:some b≠row):w'.cell? ⟨b,o,none⟩=w.cell? ⟨b,o,none⟩:=by simp[World.cell?,h.block b hb iw]
theorem Rd.uS{α:Type}[dT α](w:World)(T:TypeId)(x:α)(H:Nat)(hH:w.heap.size=H):Rd (w.alloc (.cells (dT.cells x).toArray T)) (H+1) (some ⟨H,0,none⟩) [x]:=by
 subst hH
 exact Rd.one w T x _ (Nat.lt_succ_self _)
theorem vX{w:World}{b o:Nat}{u:Value}{ob:Obj}(h:w.cell? ⟨b,o,none⟩=some u):(w.alloc ob).cell? ⟨b,o,none⟩=some u:=
 ((Up.al ob (Up.rfl' w)).cell (p:=⟨b,o,none⟩) (World.block_lt_of_cell? _ _ h)).trans h
def sT(P:Program)(k e:TypeId)(w:World)(b n:Nat)(S:List ByteArray):Prop:=
 ∃D:DataW Unit,w.ownsMap P k (plainElem P e) b n D∧IsMap D∧∀s:ByteArray,D.atKey (.string s.data.toList) (.lit (.bool false))=.lit (.bool (Ow S s))
section
variable {P:Program} {k e:TypeId} {w:World} {b n:Nat} {S:List ByteArray}
theorem sT.bd(w:World):sT P k e (w.alloc (.map #[] 0)) w.heap.size 0 []:=
 ⟨_,World.ownsMap_made w P k _,isMap_empty,fun s=>by simp[DataW.atKey,Ow]⟩
theorem sT.kept{w':World}{row:Option Nat}(h:sT P k e w b n S)(hg:w.grownBy w' row)(iw:some b≠row):sT P k e w' b n S:=by
 obtain⟨D,h1,h2⟩:=h;exact⟨D,h1.kept hg iw,h2⟩
theorem sT.alloc(h:sT P k e w b n S)(o:Obj):sT P k e (w.alloc o) b n S:=by
 obtain⟨D,h1,h2⟩:=h;exact⟨D,h1.alloc o,h2⟩
theorem sT.setCell(h:sT P k e w b n S){a:Addr}(ha:b≠a.block)(u:Value):sT P k e (w.setCell a u) b n S:=by
 obtain⟨D,h1,h2⟩:=h;exact⟨D,h1.setCell ha u,h2⟩
theorem sT.mono(h:sT P k e w b n S){n':Nat}(hn:n≤n'):sT P k e w b n' S:=by
 obtain⟨D,h1,h2⟩:=h;exact⟨D,h1.mono hn,h2⟩
theorem sT.lt(h:sT P k e w b n S):b<w.heap.size:=by obtain⟨D,h1,_⟩:=h;exact h1.lt
theorem US{a b:Bool}(h:(DataW.lit (.bool a):DataW Unit)=.lit (.bool b)):a=b:=by simpa using h
theorem Qt(he:P.underlying e=some .bool){v:Value}{z:DataW Unit×List MemPlace}(h:plainElem P e v=some z):∃c,v=.bool c∧z=(.lit (.bool c),[]):=by
 unfold plainElem at h
 rw[he]at h
 cases v<;>simp at h
 exact⟨_,rfl,h.symm⟩
theorem bC(w:World)
 (hg:o.guard=none) (m x:Operand) (t:TypeId) (hop:o.op=Op.lookup t m x false)
 (k e:TypeId) (hk:P.underlying k=some .string) (ht:P.underlying t=some (.map k e)) (he:P.underlying e=some .bool) (hz:∀w,(zeroValue e).run P w=.ok (.bool false) w) (b n:Nat) (S:List ByteArray)
 (hm:a.eval m=.map (some b)) (pZ:sT P k e w b n S) (s:ByteArray) (hx:a.eval x=.string s) (hs:s.size≤maxLen) (c:Bool) (hc:Ow S s=c)
 (hK:wpList P ops Q rest (a.put o.dst (.bool c)) w):
 wpList P ops Q (o::rest) a w:=by
 refine wpList_plain hg fun K' Ui=>?_
 subst hc
 obtain⟨D,h1,h2,h3⟩:=pZ
 obtain⟨v,ps,jh,hv⟩:=h1.lookup (string_keyed hk) ht (hz w) (plainElem_bool he false) (keyOf_string_mk hk hs)
 obtain⟨c,rfl,hc⟩:=Qt he hv
 simp only[Prod.mk.injEq]at hc
 have zH:c=Ow S s:=US (hc.1.symm.trans (h3 s))
 subst zH
 unfold Oper.wp
 simp[execOp,hop,hm,hx,jh,Result.andThen]
 exact Ui _ _ hK
theorem dA(w:World)
 (hg:o.guard=none) (m x v:Operand) (t:TypeId) (hop:o.op=Op.mapUpdate t m x v)
 (k e:TypeId) (hk:P.underlying k=some .string) (ht:P.underlying t=some (.map k e)) (he:P.underlying e=some .bool) (b n:Nat) (S:List ByteArray)
 (hm:a.eval m=.map (some b)) (pZ:sT P k e w b n S) (hn:n<maxLen) (s:ByteArray) (hx:a.eval x=.string s) (hv:a.eval v=.bool true) (hs:s.size≤maxLen)
 (hK:∀w',sT P k e w' b (n+1) (S++[s])→w.grownBy w' (some b)→wpList P ops Q rest (a.put o.dst undef) w'):
 wpList P ops Q (o::rest) a w:=by
 refine wpList_plain hg fun K' Ui=>?_
 obtain⟨D,h1,h2,h3⟩:=pZ
 obtain⟨w',jh,r1,r2⟩:=h1.update (string_keyed hk) ht hn (keyOf_string_mk hk hs) (plainElem_bool (H:=Unit) he true)
 unfold Oper.wp
 simp[execOp,hop,hm,hx,hv,jh,Result.andThen]
 refine Ui _ _ (hK w' ⟨_,r1,h2.put _ _,fun s'=>?_⟩ r2)
 by_cases e:s'=s
 ·subst e
  rw[atKey_put_same h2 (by simp[WideAt.IsKeyLit])]
  rw[I8];simp
 ·rw[atKey_put_other (by intro h;simp at h;exact e (by obtain⟨⟨x⟩⟩:=s';obtain⟨⟨y⟩⟩:=s;simpa using h)),h3 s',I8,decide_eq_false (fun h=>e h.symm),Bool.or_false]
end
end Go.Proofs.YtbalgkakkoocjaaGreat
namespace Go.Proofs.YtbalgkakkoocjaaGreat
set_option maxRecDepth 10000
open Go.RowKit
def DB(xs:List ByteArray):List ByteArray:=((xs.map fun b:ByteArray=>b.data.toList).mergeSort fun x y=>decide (x≤y)).map fun l=>⟨l.toArray⟩
theorem J6(xs:List ByteArray):(DB xs).length=xs.length:=by simp[DB]
end Go.Proofs.YtbalgkakkoocjaaGreat
namespace Go.Proofs.YtbalgkakkoocjaaGreat
set_option maxRecDepth 10000
open Go.RowKit Go.Maps Go.WideMaps Go.Sort
variable {i:Nat}{x:bM}
instance:dT bM where
 cells x:=[.string x.ar,.string x.aV,I x.start,I x.lT,I x.tI,I x.fy]
 k:=6
 len _:=rfl
 pos:=by decide
 one:=by simp[Value.oneCell',I]
theorem Rd.bx{w:World}{B:Nat}{A:Option Addr}{xs:List bM}(h:Rd w B A xs)(hx:xs[i]?=some x):
 ∃b off,A=some ⟨b,off,none⟩∧b<B∧w.cell? ⟨b,off+i*6,none⟩=some (.string x.ar)∧w.cell? ⟨b,off+i*6+1,none⟩=some (.string x.aV)∧w.cell? ⟨b,off+i*6+2,none⟩=some (I x.start)∧w.cell? ⟨b,off+i*6+3,none⟩=some (I x.lT)∧w.cell? ⟨b,off+i*6+4,none⟩=some (I x.tI)∧w.cell? ⟨b,off+i*6+5,none⟩=some (I x.fy):=by
 obtain⟨b,off,e,hb,hc⟩:=h.aO hx
 exact⟨b,off,e,hb,hc 0 _ rfl,hc 1 _ rfl,hc 2 _ rfl,hc 3 _ rfl,hc 4 _ rfl,hc 5 _ rfl⟩
theorem RB:(Tryz.prog.info? 9).map (fun i=>(i.zero,i.size,i.bytes))=some (some (Value.string ⟨#[]⟩),1,16):=by kernel_rfl
theorem rF:P3 Tryz.prog 217 9 (dT.k ByteArray) 16:=P3.mk' Tryz.underlying217 RB rfl
theorem dS(w:World):(zeroValue 4).run Tryz.prog w=.ok (.bool false) w:=by kernel_rfl
def nK(ay:List bM)(i:Nat):List ByteArray:=(ay.take i).foldl (fun out l=>dd (dd out l.ar) l.aV) []
theorem R7{ay:List bM}(hx:ay[i]?=some x):nK ay (i+1)=dd (dd (nK ay i) x.ar) x.aV:=by
 unfold nK
 rw[KW hx]
theorem QS(out:List ByteArray)(s:ByteArray):(dd out s).length≤out.length+1:=by unfold dd;split<;>simp
theorem M4(ay:List bM)(i:Nat):(nK ay i).length≤2*i:=by
 have h:∀(b:List bM) (out:List ByteArray),(b.foldl (fun out l=>dd (dd out l.ar) l.aV) out).length≤out.length+2*b.length:=by
  intro b
  induction b with
  |nil=>intro out;simp
  |cons x b ih=>
   intro out
   have h1:=ih (dd (dd out x.ar) x.aV)
   have h2:=QS (dd out x.ar) x.aV
   have h3:=QS out x.ar
   simp only[WI,List.length_cons]
   omega
 have h1:=h (ay.take i) []
 have h2:(ay.take i).length≤i:=List.length_take_le _ _
 simp only[List.length_nil]at h1
 unfold nK
 omega
theorem J2(g cp n B:Nat)(zs:List ByteArray)(w:World)(ho:Own w B 9 (.slice (some ⟨g,0,none⟩) n cp) zs)(hl:n=zs.length)(hn:n≤4194304):
 Calls Tryz.prog 267 #[.slice (some ⟨g,0,none⟩) n cp] w fun e w'=>e=.returned (.tuple #[])∧Own w' B 9 (.slice (some ⟨g,0,none⟩) n cp) (DB zs)∧w.grownBy w' (some g):=by
 subst hl
 rcases ho.2 with⟨h0,_⟩ |⟨g',Zel,cur,hv,hB,hg,wU,IZ,qF,ht⟩
 ·cases h0
 ·obtain⟨rfl,rfl⟩:g=g'∧cp=Zel:=by simpa using hv
  have hss:(zs.map fun b:ByteArray=>b.data.toList).length=zs.length:=by simp
  have zJ:cur.toList.take (zs.map fun b:ByteArray=>b.data.toList).length=(zs.map fun b:ByteArray=>b.data.toList).map encStr:=by
   have:=ht
   rw[show dT.k ByteArray=1 from rfl,Nat.mul_one,EO]at this
   rw[hss,this,List.map_map]
   apply List.map_congr_left
   intro b _
   rfl
  have hH:=holds_of_block hg zJ
  have key:=Tryz.sort_Strings g 0 cp _ w hH (V6.1 hg).1 (by rw[hss];omega)
  rw[hss]at key
  refine key.mono ?_
  rintro e w' ⟨rfl,m,os,rfl⟩
  have hs:=ownsRow_sorted (n:=m) (os:=os) (ss:=zs.map fun b:ByteArray=>b.data.toList) (ts:=(zs.map fun b:ByteArray=>b.data.toList).mergeSort fun x y=>decide (x≤y)) (by simp) hB hg (by simpa using wU) IZ qF
  refine⟨rfl,?_,grownBy_sorted _⟩
  unfold Own
  rw[J6,EO]
  rw[hss]at hs
  have e2:(DB zs).map Value.string=((zs.map fun b:ByteArray=>b.data.toList).mergeSort fun x y=>decide (x≤y)).map encStr:=by
   unfold DB;rw[List.map_map];rfl
  rw[e2]
  exact hs
set_option maxRecDepth 100000 in
theorem JE(A:Option Addr)(ay:List bM)(n c:Nat)(v2 v3:Value)(w:World)(hr:Rd w w.heap.size A ay)(hl:n=ay.length)(hc:ay.length≤c)(hn:n≤1048576)(hs:∀l∈ay,l.ar.size≤maxLen∧l.aV.size≤maxLen):
 Calls Tryz.prog 190 #[.agg #[.slice A n c,v2,v3]] w fun e w'=>∃v,e=.returned v∧Own w' w.heap.size 9 v (DB (nK ay ay.length))∧Up w w':=by
 subst hl
 have hmm:=@run_makeMap Tryz.prog
 go_enter Tryz.func190,Tryz.ntmps190
 go_wp2
 go_loopw [4,14] (fun v i wr=>∃j g cp:Nat,j≤ay.length∧i=.int .i64 j∧v=.slice (some ⟨g,0,none⟩) (nK ay j).length cp∧Own wr (w.heap.size+2) 9 (.slice (some ⟨g,0,none⟩) (nK ay j).length cp) (nK ay j)∧sT Tryz.prog 9 4 wr (w.heap.size+1) (2*j) (nK ay j)∧Up w wr) (fun _ i _=>ay.length-(intOf i).toNat)
 case atStart=>exact⟨0,w.heap.size+1+1,0,by omega,rfl,rfl,by have h_:=Own.empty (α:=ByteArray) ((w.alloc (.cells #[.slice A ay.length c,v2,v3] 27)).alloc (.map #[] 0)) (w.heap.size+2) 9 0 #[] (by simp) (by unfold maxLen;omega) rfl;simpa[nK]using h_,by have h_:=(sT.bd (P:=Tryz.prog) (k:=9) (e:=4) (w.alloc (.cells #[.slice A ay.length c,v2,v3] 27))).alloc (.cells #[] 9);simpa[nK]using h_,by(repeat(first|exact Up.rfl' _|(refine Up.al _ ?_) |(refine Up.dr _ ?_) |(refine Up.xY ?_) |(refine Up.sc ?_ (by first|exact V3 _|(simp;done) |omega) _) |(refine Up.step (by assumption) ?_)))⟩
 case round=>
  obtain⟨i,g3,c3',hi,rfl,rfl,ho,wV,hb⟩:=hrel
  by_cases bF:i<ay.length
  ·obtain⟨x,hx⟩:=Oh bF
   obtain⟨b,off,rfl,hbb,c0,c1,c2,c3,c4,c5⟩:=(hr.below hb).bx hx
   have hlen:=M4 ay i
   obtain⟨xD,u6⟩:=hs x (VW hx)
   have sE:=World.ownsRow.lt ho g3 rfl
   have HO:=Lib.hid ho
   have HS:=Lib.hid wV
   clear ho wV
   go_wp2_with fail
   generalize hwb:(wr.alloc _).alloc _=wb
   have d0:wb.cell? ⟨wr.heap.size+1,0,none⟩=some (.string x.ar):=by rw[←hwb];simp[go_sem]
   have d1:wb.cell? ⟨wr.heap.size+1,1,none⟩=some (.string x.aV):=by rw[←hwb];simp[go_sem]
   have hub:Up wr wb:=by rw[←hwb];(repeat(first|exact Up.rfl' _|(refine Up.al _ ?_) |(refine Up.dr _ ?_) |(refine Up.xY ?_) |(refine Up.sc ?_ (by first|exact V3 _|(simp;done) |omega) _) |(refine Up.step (by assumption) ?_)))
   have Bu:wr.heap.size+2≤wb.heap.size:=by rw[←hwb];simp
   have qb:Hid (sT Tryz.prog 9 4 wb (w.heap.size+1) (2*i) (nK ay i)):=Lib.hid (by rw[←hwb];exact(HS.out.alloc _).alloc _)
   have FU:=Lib.hid (HO.out.up hub)
   have Hw:Up w wb:=Up.step hub hb
   clear hwb c0 c1 c2 c3 c4 c5 HS HO
   have hw0:=hb.size
   have Tl:=R7 hx
   have wS:=Hw
   cases h1:Ow (nK ay i) x.ar with
   |false=>
    cases h2:Ow (nK ay i++[x.ar]) x.aV with
    |false=>
     refine wp_loop_rounds 3 ?_
     rw[rounds_succ]
     go_wp2_with (first|(at_builtin;(have ql:=Et.out);go_loud (refine cX rF rfl (.tmp 34) (.tmp 36) rfl (base:=w.heap.size+2) (ys:=(nK ay i++[x.ar])) (xs:=[x.aV]) (by rfl) (ql.up (by(repeat(first|exact Up.rfl' _|(refine Up.al _ ?_) |(refine Up.dr _ ?_) |(refine Up.xY ?_) |(refine Up.sc ?_ (by first|exact V3 _|(simp;done) |omega) _) |(refine Up.step (by assumption) ?_))))) 1 (by rfl) rfl (Rd.uS _ _ (x.aV) _ (by simp)) (by simp;omega) (by unfold maxLen;simp;omega) (by simp;omega) ?_);intro v2 w2 u5 fk _ CH;go_loud (have Eu:=Lib.hid ((HK.out.alloc _).kept fk (by intro hh;have h_:=World.ownsRow.lt ql _ hh.symm;omega));have DT:Up w w2:=Below.grown (Up.al _ Hy) fk (by simp;omega) (fun k e=>by have h_:=World.ownsRow.lt ql _ e;omega);have Rx:Ki.heap.size+1≤w2.heap.size:=(by have h_:=fk.size;simpa using h_);have HO2:=Lib.hid u5);clear u5 ql fk CH HK Et) |(at_mapUpdate;(have h_:=Am.out);go_loud (refine dA _ rfl _ _ _ 286 rfl 9 4 Tryz.underlying9 Tryz.underlying286 Tryz.underlying4 (w.heap.size+1) (2*i+1) (nK ay i++[x.ar]) rfl Am.out (by unfold maxLen;omega) _ rfl rfl u6 ?_);intro Ki vv fk;go_loud (have HK:=Lib.hid vv;clear vv;have Et:=Lib.hid (PL.out.grown fk (.inr (by intro hh;have h_:=World.ownsRow.lt PL.out _ hh;omega)));have Hy:Up w Ki:=Below.grown u4 fk u4.size (fun k e=>by cases e;omega);have Ov:=fk.size;have hp2:=Wq u4.size fk.size);clear fk) |(at_lookup;have h_:=Am.out;(refine bC _ rfl _ _ 286 rfl 9 4 Tryz.underlying9 Tryz.underlying286 Tryz.underlying4 dS (w.heap.size+1) (2*i+1) (nK ay i++[x.ar]) rfl Am.out _ rfl u6 _ h2 ?_)) |(at_builtin;(have ql:=HH.out);go_loud (refine cX rF rfl (.tmp 34) (.tmp 36) rfl (base:=w.heap.size+2) (ys:=(nK ay i)) (xs:=[x.ar]) (by rfl) (ql.up (by(repeat(first|exact Up.rfl' _|(refine Up.al _ ?_) |(refine Up.dr _ ?_) |(refine Up.xY ?_) |(refine Up.sc ?_ (by first|exact V3 _|(simp;done) |omega) _) |(refine Up.step (by assumption) ?_))))) 1 (by rfl) rfl (Rd.uS _ _ (x.ar) _ (by simp)) (by simp;omega) (by unfold maxLen;simp;omega) (by simp;omega) ?_);intro v1 w1 x6 fk _ CH;go_loud (have Am:=Lib.hid ((HJ.out.alloc _).kept fk (by intro hh;have h_:=World.ownsRow.lt ql _ hh.symm;omega));have u4:Up w w1:=Below.grown (Up.al _ Hx) fk (by simp;omega) (fun k e=>by have h_:=World.ownsRow.lt ql _ e;omega);have d2:=(jA fk (by simp;omega) (by intro hh;have h3_:wr.heap.size+1=g3:=VV hh;omega)).trans (vX QX);have Rw:Kh.heap.size+1≤w1.heap.size:=(by have h_:=fk.size;simpa using h_);have PL:=Lib.hid x6);clear x6 ql fk CH HJ HH) |(at_mapUpdate;(have h_:=qb.out);go_loud (refine dA _ rfl _ _ _ 286 rfl 9 4 Tryz.underlying9 Tryz.underlying286 Tryz.underlying4 (w.heap.size+1) (2*i) (nK ay i) rfl qb.out (by unfold maxLen;omega) _ rfl rfl xD ?_);intro Kh vv fk;go_loud (have HJ:=Lib.hid vv;clear vv;have HH:=Lib.hid (FU.out.grown fk (.inr (by intro hh;have h_:=World.ownsRow.lt FU.out _ hh;omega)));have Hx:Up w Kh:=Below.grown wS fk wS.size (fun k e=>by cases e;omega);have Ks:=fk.size;have QX:=(jA fk (by omega) (by intro hh;injection hh with hh;omega)).trans d1;have Gr:=Wq wS.size fk.size);clear fk) |(at_lookup;have h_:=qb.out;(refine bC _ rfl _ _ 286 rfl 9 4 Tryz.underlying9 Tryz.underlying286 Tryz.underlying4 dS (w.heap.size+1) (2*i) (nK ay i) rfl qb.out _ rfl xD _ h1 ?_)))
     rw[rounds_succ]
     go_wp2_with (first|(at_builtin;(have ql:=Et.out);go_loud (refine cX rF rfl (.tmp 34) (.tmp 36) rfl (base:=w.heap.size+2) (ys:=(nK ay i++[x.ar])) (xs:=[x.aV]) (by rfl) (ql.up (by(repeat(first|exact Up.rfl' _|(refine Up.al _ ?_) |(refine Up.dr _ ?_) |(refine Up.xY ?_) |(refine Up.sc ?_ (by first|exact V3 _|(simp;done) |omega) _) |(refine Up.step (by assumption) ?_))))) 1 (by rfl) rfl (Rd.uS _ _ (x.aV) _ (by simp)) (by simp;omega) (by unfold maxLen;simp;omega) (by simp;omega) ?_);intro v2 w2 u5 fk _ CH;go_loud (have Eu:=Lib.hid ((HK.out.alloc _).kept fk (by intro hh;have h_:=World.ownsRow.lt ql _ hh.symm;omega));have DT:Up w w2:=Below.grown (Up.al _ Hy) fk (by simp;omega) (fun k e=>by have h_:=World.ownsRow.lt ql _ e;omega);have Rx:Ki.heap.size+1≤w2.heap.size:=(by have h_:=fk.size;simpa using h_);have HO2:=Lib.hid u5);clear u5 ql fk CH HK Et) |(at_mapUpdate;(have h_:=Am.out);go_loud (refine dA _ rfl _ _ _ 286 rfl 9 4 Tryz.underlying9 Tryz.underlying286 Tryz.underlying4 (w.heap.size+1) (2*i+1) (nK ay i++[x.ar]) rfl Am.out (by unfold maxLen;omega) _ rfl rfl u6 ?_);intro Ki vv fk;go_loud (have HK:=Lib.hid vv;clear vv;have Et:=Lib.hid (PL.out.grown fk (.inr (by intro hh;have h_:=World.ownsRow.lt PL.out _ hh;omega)));have Hy:Up w Ki:=Below.grown u4 fk u4.size (fun k e=>by cases e;omega);have Ov:=fk.size;have hp2:=Wq u4.size fk.size);clear fk) |(at_lookup;have h_:=Am.out;(refine bC _ rfl _ _ 286 rfl 9 4 Tryz.underlying9 Tryz.underlying286 Tryz.underlying4 dS (w.heap.size+1) (2*i+1) (nK ay i++[x.ar]) rfl Am.out _ rfl u6 _ h2 ?_)) |(at_builtin;(have ql:=HH.out);go_loud (refine cX rF rfl (.tmp 34) (.tmp 36) rfl (base:=w.heap.size+2) (ys:=(nK ay i)) (xs:=[x.ar]) (by rfl) (ql.up (by(repeat(first|exact Up.rfl' _|(refine Up.al _ ?_) |(refine Up.dr _ ?_) |(refine Up.xY ?_) |(refine Up.sc ?_ (by first|exact V3 _|(simp;done) |omega) _) |(refine Up.step (by assumption) ?_))))) 1 (by rfl) rfl (Rd.uS _ _ (x.ar) _ (by simp)) (by simp;omega) (by unfold maxLen;simp;omega) (by simp;omega) ?_);intro v1 w1 x6 fk _ CH;go_loud (have Am:=Lib.hid ((HJ.out.alloc _).kept fk (by intro hh;have h_:=World.ownsRow.lt ql _ hh.symm;omega));have u4:Up w w1:=Below.grown (Up.al _ Hx) fk (by simp;omega) (fun k e=>by have h_:=World.ownsRow.lt ql _ e;omega);have d2:=(jA fk (by simp;omega) (by intro hh;have h3_:wr.heap.size+1=g3:=VV hh;omega)).trans (vX QX);have Rw:Kh.heap.size+1≤w1.heap.size:=(by have h_:=fk.size;simpa using h_);have PL:=Lib.hid x6);clear x6 ql fk CH HJ HH) |(at_mapUpdate;(have h_:=qb.out);go_loud (refine dA _ rfl _ _ _ 286 rfl 9 4 Tryz.underlying9 Tryz.underlying286 Tryz.underlying4 (w.heap.size+1) (2*i) (nK ay i) rfl qb.out (by unfold maxLen;omega) _ rfl rfl xD ?_);intro Kh vv fk;go_loud (have HJ:=Lib.hid vv;clear vv;have HH:=Lib.hid (FU.out.grown fk (.inr (by intro hh;have h_:=World.ownsRow.lt FU.out _ hh;omega)));have Hx:Up w Kh:=Below.grown wS fk wS.size (fun k e=>by cases e;omega);have Ks:=fk.size;have QX:=(jA fk (by omega) (by intro hh;injection hh with hh;omega)).trans d1;have Gr:=Wq wS.size fk.size);clear fk) |(at_lookup;have h_:=qb.out;(refine bC _ rfl _ _ 286 rfl 9 4 Tryz.underlying9 Tryz.underlying286 Tryz.underlying4 dS (w.heap.size+1) (2*i) (nK ay i) rfl qb.out _ rfl xD _ h1 ?_)))
     rw[rounds_succ]
     go_wp2_with (first|(at_builtin;(have ql:=Et.out);go_loud (refine cX rF rfl (.tmp 34) (.tmp 36) rfl (base:=w.heap.size+2) (ys:=(nK ay i++[x.ar])) (xs:=[x.aV]) (by rfl) (ql.up (by(repeat(first|exact Up.rfl' _|(refine Up.al _ ?_) |(refine Up.dr _ ?_) |(refine Up.xY ?_) |(refine Up.sc ?_ (by first|exact V3 _|(simp;done) |omega) _) |(refine Up.step (by assumption) ?_))))) 1 (by rfl) rfl (Rd.uS _ _ (x.aV) _ (by simp)) (by simp;omega) (by unfold maxLen;simp;omega) (by simp;omega) ?_);intro v2 w2 u5 fk _ CH;go_loud (have Eu:=Lib.hid ((HK.out.alloc _).kept fk (by intro hh;have h_:=World.ownsRow.lt ql _ hh.symm;omega));have DT:Up w w2:=Below.grown (Up.al _ Hy) fk (by simp;omega) (fun k e=>by have h_:=World.ownsRow.lt ql _ e;omega);have Rx:Ki.heap.size+1≤w2.heap.size:=(by have h_:=fk.size;simpa using h_);have HO2:=Lib.hid u5);clear u5 ql fk CH HK Et) |(at_mapUpdate;(have h_:=Am.out);go_loud (refine dA _ rfl _ _ _ 286 rfl 9 4 Tryz.underlying9 Tryz.underlying286 Tryz.underlying4 (w.heap.size+1) (2*i+1) (nK ay i++[x.ar]) rfl Am.out (by unfold maxLen;omega) _ rfl rfl u6 ?_);intro Ki vv fk;go_loud (have HK:=Lib.hid vv;clear vv;have Et:=Lib.hid (PL.out.grown fk (.inr (by intro hh;have h_:=World.ownsRow.lt PL.out _ hh;omega)));have Hy:Up w Ki:=Below.grown u4 fk u4.size (fun k e=>by cases e;omega);have Ov:=fk.size;have hp2:=Wq u4.size fk.size);clear fk) |(at_lookup;have h_:=Am.out;(refine bC _ rfl _ _ 286 rfl 9 4 Tryz.underlying9 Tryz.underlying286 Tryz.underlying4 dS (w.heap.size+1) (2*i+1) (nK ay i++[x.ar]) rfl Am.out _ rfl u6 _ h2 ?_)) |(at_builtin;(have ql:=HH.out);go_loud (refine cX rF rfl (.tmp 34) (.tmp 36) rfl (base:=w.heap.size+2) (ys:=(nK ay i)) (xs:=[x.ar]) (by rfl) (ql.up (by(repeat(first|exact Up.rfl' _|(refine Up.al _ ?_) |(refine Up.dr _ ?_) |(refine Up.xY ?_) |(refine Up.sc ?_ (by first|exact V3 _|(simp;done) |omega) _) |(refine Up.step (by assumption) ?_))))) 1 (by rfl) rfl (Rd.uS _ _ (x.ar) _ (by simp)) (by simp;omega) (by unfold maxLen;simp;omega) (by simp;omega) ?_);intro v1 w1 x6 fk _ CH;go_loud (have Am:=Lib.hid ((HJ.out.alloc _).kept fk (by intro hh;have h_:=World.ownsRow.lt ql _ hh.symm;omega));have u4:Up w w1:=Below.grown (Up.al _ Hx) fk (by simp;omega) (fun k e=>by have h_:=World.ownsRow.lt ql _ e;omega);have d2:=(jA fk (by simp;omega) (by intro hh;have h3_:wr.heap.size+1=g3:=VV hh;omega)).trans (vX QX);have Rw:Kh.heap.size+1≤w1.heap.size:=(by have h_:=fk.size;simpa using h_);have PL:=Lib.hid x6);clear x6 ql fk CH HJ HH) |(at_mapUpdate;(have h_:=qb.out);go_loud (refine dA _ rfl _ _ _ 286 rfl 9 4 Tryz.underlying9 Tryz.underlying286 Tryz.underlying4 (w.heap.size+1) (2*i) (nK ay i) rfl qb.out (by unfold maxLen;omega) _ rfl rfl xD ?_);intro Kh vv fk;go_loud (have HJ:=Lib.hid vv;clear vv;have HH:=Lib.hid (FU.out.grown fk (.inr (by intro hh;have h_:=World.ownsRow.lt FU.out _ hh;omega)));have Hx:Up w Kh:=Below.grown wS fk wS.size (fun k e=>by cases e;omega);have Ks:=fk.size;have QX:=(jA fk (by omega) (by intro hh;injection hh with hh;omega)).trans d1;have Gr:=Wq wS.size fk.size);clear fk) |(at_lookup;have h_:=qb.out;(refine bC _ rfl _ _ 286 rfl 9 4 Tryz.underlying9 Tryz.underlying286 Tryz.underlying4 dS (w.heap.size+1) (2*i) (nK ay i) rfl qb.out _ rfl xD _ h1 ?_)))
     have sD:nK ay (i+1)=(nK ay i++[x.ar]++[x.aV]):=by rw[Tl];simp[dd,h1,h2]
     have hoF:=HO2.out
     obtain⟨g4,c4,hv4,_⟩:=World.ownsRow.form hoF (by simp)
     exact⟨⟨i+1,g4,c4,by omega,by go_num,by rw[sD];exact hv4,by rw[sD,←hv4];exact hoF,by rw[sD];exact Eu.out.mono (by omega),DT⟩,by simp[intOf];omega⟩
    |true=>
     refine wp_loop_rounds 3 ?_
     rw[rounds_succ]
     go_wp2_with (first|(at_lookup;have h_:=Am.out;(refine bC _ rfl _ _ 286 rfl 9 4 Tryz.underlying9 Tryz.underlying286 Tryz.underlying4 dS (w.heap.size+1) (2*i+1) (nK ay i++[x.ar]) rfl Am.out _ rfl u6 _ h2 ?_)) |(at_builtin;(have ql:=HH.out);go_loud (refine cX rF rfl (.tmp 34) (.tmp 36) rfl (base:=w.heap.size+2) (ys:=(nK ay i)) (xs:=[x.ar]) (by rfl) (ql.up (by(repeat(first|exact Up.rfl' _|(refine Up.al _ ?_) |(refine Up.dr _ ?_) |(refine Up.xY ?_) |(refine Up.sc ?_ (by first|exact V3 _|(simp;done) |omega) _) |(refine Up.step (by assumption) ?_))))) 1 (by rfl) rfl (Rd.uS _ _ (x.ar) _ (by simp)) (by simp;omega) (by unfold maxLen;simp;omega) (by simp;omega) ?_);intro v1 w1 x6 fk _ CH;go_loud (have Am:=Lib.hid ((HJ.out.alloc _).kept fk (by intro hh;have h_:=World.ownsRow.lt ql _ hh.symm;omega));have u4:Up w w1:=Below.grown (Up.al _ Hx) fk (by simp;omega) (fun k e=>by have h_:=World.ownsRow.lt ql _ e;omega);have d2:=(jA fk (by simp;omega) (by intro hh;have h3_:wr.heap.size+1=g3:=VV hh;omega)).trans (vX QX);have Rw:Kh.heap.size+1≤w1.heap.size:=(by have h_:=fk.size;simpa using h_);have PL:=Lib.hid x6);clear x6 ql fk CH HJ HH) |(at_mapUpdate;(have h_:=qb.out);go_loud (refine dA _ rfl _ _ _ 286 rfl 9 4 Tryz.underlying9 Tryz.underlying286 Tryz.underlying4 (w.heap.size+1) (2*i) (nK ay i) rfl qb.out (by unfold maxLen;omega) _ rfl rfl xD ?_);intro Kh vv fk;go_loud (have HJ:=Lib.hid vv;clear vv;have HH:=Lib.hid (FU.out.grown fk (.inr (by intro hh;have h_:=World.ownsRow.lt FU.out _ hh;omega)));have Hx:Up w Kh:=Below.grown wS fk wS.size (fun k e=>by cases e;omega);have Ks:=fk.size;have QX:=(jA fk (by omega) (by intro hh;injection hh with hh;omega)).trans d1;have Gr:=Wq wS.size fk.size);clear fk) |(at_lookup;have h_:=qb.out;(refine bC _ rfl _ _ 286 rfl 9 4 Tryz.underlying9 Tryz.underlying286 Tryz.underlying4 dS (w.heap.size+1) (2*i) (nK ay i) rfl qb.out _ rfl xD _ h1 ?_)))
     rw[rounds_succ]
     go_wp2_with (first|(at_lookup;have h_:=Am.out;(refine bC _ rfl _ _ 286 rfl 9 4 Tryz.underlying9 Tryz.underlying286 Tryz.underlying4 dS (w.heap.size+1) (2*i+1) (nK ay i++[x.ar]) rfl Am.out _ rfl u6 _ h2 ?_)) |(at_builtin;(have ql:=HH.out);go_loud (refine cX rF rfl (.tmp 34) (.tmp 36) rfl (base:=w.heap.size+2) (ys:=(nK ay i)) (xs:=[x.ar]) (by rfl) (ql.up (by(repeat(first|exact Up.rfl' _|(refine Up.al _ ?_) |(refine Up.dr _ ?_) |(refine Up.xY ?_) |(refine Up.sc ?_ (by first|exact V3 _|(simp;done) |omega) _) |(refine Up.step (by assumption) ?_))))) 1 (by rfl) rfl (Rd.uS _ _ (x.ar) _ (by simp)) (by simp;omega) (by unfold maxLen;simp;omega) (by simp;omega) ?_);intro v1 w1 x6 fk _ CH;go_loud (have Am:=Lib.hid ((HJ.out.alloc _).kept fk (by intro hh;have h_:=World.ownsRow.lt ql _ hh.symm;omega));have u4:Up w w1:=Below.grown (Up.al _ Hx) fk (by simp;omega) (fun k e=>by have h_:=World.ownsRow.lt ql _ e;omega);have d2:=(jA fk (by simp;omega) (by intro hh;have h3_:wr.heap.size+1=g3:=VV hh;omega)).trans (vX QX);have Rw:Kh.heap.size+1≤w1.heap.size:=(by have h_:=fk.size;simpa using h_);have PL:=Lib.hid x6);clear x6 ql fk CH HJ HH) |(at_mapUpdate;(have h_:=qb.out);go_loud (refine dA _ rfl _ _ _ 286 rfl 9 4 Tryz.underlying9 Tryz.underlying286 Tryz.underlying4 (w.heap.size+1) (2*i) (nK ay i) rfl qb.out (by unfold maxLen;omega) _ rfl rfl xD ?_);intro Kh vv fk;go_loud (have HJ:=Lib.hid vv;clear vv;have HH:=Lib.hid (FU.out.grown fk (.inr (by intro hh;have h_:=World.ownsRow.lt FU.out _ hh;omega)));have Hx:Up w Kh:=Below.grown wS fk wS.size (fun k e=>by cases e;omega);have Ks:=fk.size;have QX:=(jA fk (by omega) (by intro hh;injection hh with hh;omega)).trans d1;have Gr:=Wq wS.size fk.size);clear fk) |(at_lookup;have h_:=qb.out;(refine bC _ rfl _ _ 286 rfl 9 4 Tryz.underlying9 Tryz.underlying286 Tryz.underlying4 dS (w.heap.size+1) (2*i) (nK ay i) rfl qb.out _ rfl xD _ h1 ?_)))
     rw[rounds_succ]
     go_wp2_with (first|(at_lookup;have h_:=Am.out;(refine bC _ rfl _ _ 286 rfl 9 4 Tryz.underlying9 Tryz.underlying286 Tryz.underlying4 dS (w.heap.size+1) (2*i+1) (nK ay i++[x.ar]) rfl Am.out _ rfl u6 _ h2 ?_)) |(at_builtin;(have ql:=HH.out);go_loud (refine cX rF rfl (.tmp 34) (.tmp 36) rfl (base:=w.heap.size+2) (ys:=(nK ay i)) (xs:=[x.ar]) (by rfl) (ql.up (by(repeat(first|exact Up.rfl' _|(refine Up.al _ ?_) |(refine Up.dr _ ?_) |(refine Up.xY ?_) |(refine Up.sc ?_ (by first|exact V3 _|(simp;done) |omega) _) |(refine Up.step (by assumption) ?_))))) 1 (by rfl) rfl (Rd.uS _ _ (x.ar) _ (by simp)) (by simp;omega) (by unfold maxLen;simp;omega) (by simp;omega) ?_);intro v1 w1 x6 fk _ CH;go_loud (have Am:=Lib.hid ((HJ.out.alloc _).kept fk (by intro hh;have h_:=World.ownsRow.lt ql _ hh.symm;omega));have u4:Up w w1:=Below.grown (Up.al _ Hx) fk (by simp;omega) (fun k e=>by have h_:=World.ownsRow.lt ql _ e;omega);have d2:=(jA fk (by simp;omega) (by intro hh;have h3_:wr.heap.size+1=g3:=VV hh;omega)).trans (vX QX);have Rw:Kh.heap.size+1≤w1.heap.size:=(by have h_:=fk.size;simpa using h_);have PL:=Lib.hid x6);clear x6 ql fk CH HJ HH) |(at_mapUpdate;(have h_:=qb.out);go_loud (refine dA _ rfl _ _ _ 286 rfl 9 4 Tryz.underlying9 Tryz.underlying286 Tryz.underlying4 (w.heap.size+1) (2*i) (nK ay i) rfl qb.out (by unfold maxLen;omega) _ rfl rfl xD ?_);intro Kh vv fk;go_loud (have HJ:=Lib.hid vv;clear vv;have HH:=Lib.hid (FU.out.grown fk (.inr (by intro hh;have h_:=World.ownsRow.lt FU.out _ hh;omega)));have Hx:Up w Kh:=Below.grown wS fk wS.size (fun k e=>by cases e;omega);have Ks:=fk.size;have QX:=(jA fk (by omega) (by intro hh;injection hh with hh;omega)).trans d1;have Gr:=Wq wS.size fk.size);clear fk) |(at_lookup;have h_:=qb.out;(refine bC _ rfl _ _ 286 rfl 9 4 Tryz.underlying9 Tryz.underlying286 Tryz.underlying4 dS (w.heap.size+1) (2*i) (nK ay i) rfl qb.out _ rfl xD _ h1 ?_)))
     have sD:nK ay (i+1)=(nK ay i++[x.ar]):=by rw[Tl];simp[dd,h1,h2]
     have hoF:=PL.out
     obtain⟨g4,c4,hv4,_⟩:=World.ownsRow.form hoF (by simp)
     exact⟨⟨i+1,g4,c4,by omega,by go_num,by rw[sD];exact hv4,by rw[sD,←hv4];exact hoF,by rw[sD];exact Am.out.mono (by omega),u4⟩,by simp[intOf];omega⟩
   |true=>
    cases h2:Ow (nK ay i) x.aV with
    |false=>
     refine wp_loop_rounds 3 ?_
     rw[rounds_succ]
     go_wp2_with (first|(at_lookup;have h_:=qb.out;(refine bC _ rfl _ _ 286 rfl 9 4 Tryz.underlying9 Tryz.underlying286 Tryz.underlying4 dS (w.heap.size+1) (2*i) (nK ay i) rfl qb.out _ rfl xD _ h1 ?_)) |(at_lookup;have h_:=qb.out;(refine bC _ rfl _ _ 286 rfl 9 4 Tryz.underlying9 Tryz.underlying286 Tryz.underlying4 dS (w.heap.size+1) (2*i) (nK ay i) rfl qb.out _ rfl u6 _ h2 ?_)) |(at_mapUpdate;(have h_:=qb.out);go_loud (refine dA _ rfl _ _ _ 286 rfl 9 4 Tryz.underlying9 Tryz.underlying286 Tryz.underlying4 (w.heap.size+1) (2*i) (nK ay i) rfl qb.out (by unfold maxLen;omega) _ rfl rfl u6 ?_);intro Ki vv fk;go_loud (have HK:=Lib.hid vv;clear vv;have Et:=Lib.hid (FU.out.grown fk (.inr (by intro hh;have h_:=World.ownsRow.lt FU.out _ hh;omega)));have Hy:Up w Ki:=Below.grown wS fk wS.size (fun k e=>by cases e;omega);have Ov:=fk.size;have hp2:=Wq wS.size fk.size);clear fk) |(at_builtin;(have ql:=Et.out);go_loud (refine cX rF rfl (.tmp 34) (.tmp 36) rfl (base:=w.heap.size+2) (ys:=(nK ay i)) (xs:=[x.aV]) (by rfl) (ql.up (by(repeat(first|exact Up.rfl' _|(refine Up.al _ ?_) |(refine Up.dr _ ?_) |(refine Up.xY ?_) |(refine Up.sc ?_ (by first|exact V3 _|(simp;done) |omega) _) |(refine Up.step (by assumption) ?_))))) 1 (by rfl) rfl (Rd.uS _ _ (x.aV) _ (by simp)) (by simp;omega) (by unfold maxLen;simp;omega) (by simp;omega) ?_);intro v2 w2 u5 fk _ CH;go_loud (have Eu:=Lib.hid ((HK.out.alloc _).kept fk (by intro hh;have h_:=World.ownsRow.lt ql _ hh.symm;omega));have DT:Up w w2:=Below.grown (Up.al _ Hy) fk (by simp;omega) (fun k e=>by have h_:=World.ownsRow.lt ql _ e;omega);have Rx:Ki.heap.size+1≤w2.heap.size:=(by have h_:=fk.size;simpa using h_);have HO2:=Lib.hid u5);clear u5 ql fk CH HK Et))
     rw[rounds_succ]
     go_wp2_with (first|(at_lookup;have h_:=qb.out;(refine bC _ rfl _ _ 286 rfl 9 4 Tryz.underlying9 Tryz.underlying286 Tryz.underlying4 dS (w.heap.size+1) (2*i) (nK ay i) rfl qb.out _ rfl xD _ h1 ?_)) |(at_lookup;have h_:=qb.out;(refine bC _ rfl _ _ 286 rfl 9 4 Tryz.underlying9 Tryz.underlying286 Tryz.underlying4 dS (w.heap.size+1) (2*i) (nK ay i) rfl qb.out _ rfl u6 _ h2 ?_)) |(at_mapUpdate;(have h_:=qb.out);go_loud (refine dA _ rfl _ _ _ 286 rfl 9 4 Tryz.underlying9 Tryz.underlying286 Tryz.underlying4 (w.heap.size+1) (2*i) (nK ay i) rfl qb.out (by unfold maxLen;omega) _ rfl rfl u6 ?_);intro Ki vv fk;go_loud (have HK:=Lib.hid vv;clear vv;have Et:=Lib.hid (FU.out.grown fk (.inr (by intro hh;have h_:=World.ownsRow.lt FU.out _ hh;omega)));have Hy:Up w Ki:=Below.grown wS fk wS.size (fun k e=>by cases e;omega);have Ov:=fk.size;have hp2:=Wq wS.size fk.size);clear fk) |(at_builtin;(have ql:=Et.out);go_loud (refine cX rF rfl (.tmp 34) (.tmp 36) rfl (base:=w.heap.size+2) (ys:=(nK ay i)) (xs:=[x.aV]) (by rfl) (ql.up (by(repeat(first|exact Up.rfl' _|(refine Up.al _ ?_) |(refine Up.dr _ ?_) |(refine Up.xY ?_) |(refine Up.sc ?_ (by first|exact V3 _|(simp;done) |omega) _) |(refine Up.step (by assumption) ?_))))) 1 (by rfl) rfl (Rd.uS _ _ (x.aV) _ (by simp)) (by simp;omega) (by unfold maxLen;simp;omega) (by simp;omega) ?_);intro v2 w2 u5 fk _ CH;go_loud (have Eu:=Lib.hid ((HK.out.alloc _).kept fk (by intro hh;have h_:=World.ownsRow.lt ql _ hh.symm;omega));have DT:Up w w2:=Below.grown (Up.al _ Hy) fk (by simp;omega) (fun k e=>by have h_:=World.ownsRow.lt ql _ e;omega);have Rx:Ki.heap.size+1≤w2.heap.size:=(by have h_:=fk.size;simpa using h_);have HO2:=Lib.hid u5);clear u5 ql fk CH HK Et))
     rw[rounds_succ]
     go_wp2_with (first|(at_lookup;have h_:=qb.out;(refine bC _ rfl _ _ 286 rfl 9 4 Tryz.underlying9 Tryz.underlying286 Tryz.underlying4 dS (w.heap.size+1) (2*i) (nK ay i) rfl qb.out _ rfl xD _ h1 ?_)) |(at_lookup;have h_:=qb.out;(refine bC _ rfl _ _ 286 rfl 9 4 Tryz.underlying9 Tryz.underlying286 Tryz.underlying4 dS (w.heap.size+1) (2*i) (nK ay i) rfl qb.out _ rfl u6 _ h2 ?_)) |(at_mapUpdate;(have h_:=qb.out);go_loud (refine dA _ rfl _ _ _ 286 rfl 9 4 Tryz.underlying9 Tryz.underlying286 Tryz.underlying4 (w.heap.size+1) (2*i) (nK ay i) rfl qb.out (by unfold maxLen;omega) _ rfl rfl u6 ?_);intro Ki vv fk;go_loud (have HK:=Lib.hid vv;clear vv;have Et:=Lib.hid (FU.out.grown fk (.inr (by intro hh;have h_:=World.ownsRow.lt FU.out _ hh;omega)));have Hy:Up w Ki:=Below.grown wS fk wS.size (fun k e=>by cases e;omega);have Ov:=fk.size;have hp2:=Wq wS.size fk.size);clear fk) |(at_builtin;(have ql:=Et.out);go_loud (refine cX rF rfl (.tmp 34) (.tmp 36) rfl (base:=w.heap.size+2) (ys:=(nK ay i)) (xs:=[x.aV]) (by rfl) (ql.up (by(repeat(first|exact Up.rfl' _|(refine Up.al _ ?_) |(refine Up.dr _ ?_) |(refine Up.xY ?_) |(refine Up.sc ?_ (by first|exact V3 _|(simp;done) |omega) _) |(refine Up.step (by assumption) ?_))))) 1 (by rfl) rfl (Rd.uS _ _ (x.aV) _ (by simp)) (by simp;omega) (by unfold maxLen;simp;omega) (by simp;omega) ?_);intro v2 w2 u5 fk _ CH;go_loud (have Eu:=Lib.hid ((HK.out.alloc _).kept fk (by intro hh;have h_:=World.ownsRow.lt ql _ hh.symm;omega));have DT:Up w w2:=Below.grown (Up.al _ Hy) fk (by simp;omega) (fun k e=>by have h_:=World.ownsRow.lt ql _ e;omega);have Rx:Ki.heap.size+1≤w2.heap.size:=(by have h_:=fk.size;simpa using h_);have HO2:=Lib.hid u5);clear u5 ql fk CH HK Et))
     have sD:nK ay (i+1)=(nK ay i++[x.aV]):=by rw[Tl];simp[dd,h1,h2]
     have hoF:=HO2.out
     obtain⟨g4,c4,hv4,_⟩:=World.ownsRow.form hoF (by simp)
     exact⟨⟨i+1,g4,c4,by omega,by go_num,by rw[sD];exact hv4,by rw[sD,←hv4];exact hoF,by rw[sD];exact Eu.out.mono (by omega),DT⟩,by simp[intOf];omega⟩
    |true=>
     refine wp_loop_rounds 3 ?_
     rw[rounds_succ]
     go_wp2_with (first|(at_lookup;have h_:=qb.out;(refine bC _ rfl _ _ 286 rfl 9 4 Tryz.underlying9 Tryz.underlying286 Tryz.underlying4 dS (w.heap.size+1) (2*i) (nK ay i) rfl qb.out _ rfl xD _ h1 ?_)) |(at_lookup;have h_:=qb.out;(refine bC _ rfl _ _ 286 rfl 9 4 Tryz.underlying9 Tryz.underlying286 Tryz.underlying4 dS (w.heap.size+1) (2*i) (nK ay i) rfl qb.out _ rfl u6 _ h2 ?_)))
     rw[rounds_succ]
     go_wp2_with (first|(at_lookup;have h_:=qb.out;(refine bC _ rfl _ _ 286 rfl 9 4 Tryz.underlying9 Tryz.underlying286 Tryz.underlying4 dS (w.heap.size+1) (2*i) (nK ay i) rfl qb.out _ rfl xD _ h1 ?_)) |(at_lookup;have h_:=qb.out;(refine bC _ rfl _ _ 286 rfl 9 4 Tryz.underlying9 Tryz.underlying286 Tryz.underlying4 dS (w.heap.size+1) (2*i) (nK ay i) rfl qb.out _ rfl u6 _ h2 ?_)))
     rw[rounds_succ]
     go_wp2_with (first|(at_lookup;have h_:=qb.out;(refine bC _ rfl _ _ 286 rfl 9 4 Tryz.underlying9 Tryz.underlying286 Tryz.underlying4 dS (w.heap.size+1) (2*i) (nK ay i) rfl qb.out _ rfl xD _ h1 ?_)) |(at_lookup;have h_:=qb.out;(refine bC _ rfl _ _ 286 rfl 9 4 Tryz.underlying9 Tryz.underlying286 Tryz.underlying4 dS (w.heap.size+1) (2*i) (nK ay i) rfl qb.out _ rfl u6 _ h2 ?_)))
     have sD:nK ay (i+1)=(nK ay i):=by rw[Tl];simp[dd,h1,h2]
     exact⟨⟨i+1,g3,c3',by omega,by go_num,by rw[sD],by rw[sD];exact FU.out,by rw[sD];exact qb.out.mono (by omega),wS⟩,by simp[intOf];omega⟩
  ·obtain rfl:i=ay.length:=by omega
   have hlen:=M4 ay ay.length
   go_wp2_with fail
   refine(J2 g3 c3' _ _ (nK ay ay.length) _ ho rfl (by omega)).mono ?_
   rintro e w1 ⟨rfl,x6,hg1⟩
   have Kr:Up w w1:=Below.grown hb hg1 hb.size (fun k e=>by cases e;have h_:=World.ownsRow.lt ho g3 rfl;omega)
   go_wp2_with fail
   go_ret
   exact⟨_,rfl,by simpa[J6]using x6.more (by omega),Kr⟩
end Go.Proofs.YtbalgkakkoocjaaGreat
namespace Go.Proofs.YtbalgkakkoocjaaGreat
set_option maxRecDepth 10000
open Go.RowKit
theorem OT(n:aj):nK n.ay n.ay.length=(ix n).foldl dd []:=by
 have h:∀(l:List bM) (acc:List ByteArray),l.foldl (fun out l=>dd (dd out l.ar) l.aV) acc=(l.flatMap fun l=>[l.ar,l.aV]).foldl dd acc:=by
  intro l
  induction l with
  |nil=>intro acc;rfl
  |cons x l ih=>intro acc;simp only[WI,List.flatMap_cons,List.foldl_append,List.foldl_nil,ih]
 unfold nK ix
 rw[List.take_length]
 exact h _ _
def dx(n:aj):Option (List ByteArray):=
 if n.ay.length≤1048576∧(n.ay.all fun l=>decide (l.ar.size≤maxLen∧l.aV.size≤maxLen))=true then some (DB ((ix n).foldl dd []))else none
theorem zS(n:aj){r:(List ByteArray)}(H:dx n=some r):iZ Tryz.prog 190 [.ag (bA n)] [] (.ms 0) [some ⟨.of 9,1,r.map jH⟩]:=by
 unfold dx at H
 split at H
 case isFalse=>cases H
 rename_i ik
 obtain⟨hn,hs⟩:=ik
 obtain rfl:=VV H
 have PT:∀l∈n.ay,l.ar.size≤maxLen∧l.aV.size≤maxLen:=fun l hl=>of_decide_eq_true (V5.1 hs l hl)
 intro S β w vs ω hk hl ha
 obtain⟨x,hx0,hr⟩:=ha 0 _ rfl
 have hv:vs=#[x]:=by
  have h1:vs.size=1:=hl
  apply YE (by simp[h1])
  intro i h2 h3
  have:i=0:=by omega
  subst this
  have:=(V6.1 hx0).2
  simpa using this
 subst hv
 obtain⟨us,rfl,hul,Kr,hur⟩:=hr.qg
 have Zbj:us.size=3:=hul
 have h0:us[0]?=some us[0]:=Array.getElem?_eq_getElem (by omega)
 have Uy:us=#[us[0],us[1],us[2]]:=by
  apply YE (by simp[Zbj])
  intro i h2 h3
  match i,h2 with
  |0,_=>rfl
  |1,_=>rfl
  |2,_=>rfl
  |i+3,h2=>omega
 have hr0:=hur 0 (.sl (n.ay.map bp)) _ rfl h0
 have zo:∃A c,us[0]=.slice A n.ay.length c∧n.ay.length≤c∧Rd w w.heap.size A n.ay:=by
  cases hr0 with
  |c h=>
   generalize hq:PV.sl (n.ay.map bp)=q at h
   generalize us[0]=y at h
   cases h with
   |v x h=>cases hq
   |ud=>cases hq
   |un=>cases hq
   |rp=>cases hq
   |fn=>cases hq
   |nil A c=>
    have:n.ay=[]:=by simpa using hq
    exact⟨A,c,by rw[this];rfl,by rw[this];simp,by rw[this];exact Rd.U2⟩
   |sl es b off k c u hS hkp wU hm xx zH h1 hrr=>
    obtain rfl:n.ay.map bp=es:=by simpa using hq
    refine⟨_,c,by simp,by simpa using wU,fun iw=>⟨b,off,rfl,hk.sz b hS,fun j u' x7=>?_⟩⟩
    have gz:0<n.ay.length:=X5.2 iw
    have hk6:k=6:=(xx 0 (bp n.ay[0]) (by simp[gz])).symm
    subst hk6
    have hj:=(VU.1 x7).1
    rw[nZ]at hj
    have hj6:j<n.ay.length*6:=hj
    have hi:j / 6<n.ay.length:=by omega
    have hy:n.ay[j / 6]?=some n.ay[j / 6]:=VT hi
    have hjj:j=(j / 6)*6+j % 6:=by omega
    have hm6:j % 6<6:=Nat.mod_lt _ (by decide)
    have hp:∃p u'',(bp n.ay[j / 6])[j % 6]?=some p∧(dT.cells n.ay[j / 6])[j % 6]?=some u''∧∀z,fA w S p z→z=u'':=by
     generalize n.ay[j / 6]=y
     generalize j % 6=m at hm6
     match m,hm6 with
     |0,_=>exact⟨_,_,rfl,rfl,fun z hz=>by cases hz;rfl⟩
     |1,_=>exact⟨_,_,rfl,rfl,fun z hz=>by cases hz;rfl⟩
     |2,_=>exact⟨_,_,rfl,rfl,fun z hz=>by cases hz;rfl⟩
     |3,_=>exact⟨_,_,rfl,rfl,fun z hz=>by cases hz;rfl⟩
     |4,_=>exact⟨_,_,rfl,rfl,fun z hz=>by cases hz;rfl⟩
     |5,_=>exact⟨_,_,rfl,rfl,fun z hz=>by cases hz;rfl⟩
    obtain⟨p,u'',Gr,hp2,hp3⟩:=hp
    have hf:=uy hy hp2
    rw[show dT.k bM=6 from rfl,←hjj]at hf
    obtain rfl:u''=u':=VV (hf.symm.trans x7)
    have e1:(n.ay.map bp)[j / 6]?=some (bp n.ay[j / 6]):=by simp[hi]
    have hc:=zH (j / 6) _ (j % 6) p e1 Gr
    have hz:=hp3 _ (hrr (j / 6) _ (j % 6) p e1 Gr)
    rw[hz]at hc
    rw[show off+j=off+j / 6*6+j % 6 by omega]
    exact hc
 obtain⟨A,c,hA,ZcW,Tj⟩:=zo
 rw[Uy,hA]
 refine(JE A n.ay _ c _ _ w Tj rfl ZcW hn PT).mono ?_
 rintro e w' ⟨v,rfl,ho,hu⟩
 rw[OT]at ho
 obtain⟨E',h1,h2,h3,h4,h5⟩:=zP (c:=jH) hk ho hu (fun x=>⟨rfl,fun j p hj=>by
  cases j with
  |zero=>obtain rfl:vs x=p:=by simpa using hj
         exact⟨_,rfl,rfl,fun w E=>.c (.v _ rfl)⟩
  |succ j=>simp[jH]at hj⟩)
 exact⟨v,E',rfl,h1,h2,h3,h4,h5⟩
instance (n:aj):CT Tryz.prog (dx n):=⟨190,[.ag (bA n)],[],fun r=>.ms 0,fun r=>[some ⟨.of 9,1,r.map jH⟩],zS n⟩
set_option maxHeartbeats 16000000
def lD(l:List Int)(s0:Int):Option (Int⊕(Unit⊕Bool)):=
 cond (decide (s0<(l.length:Int)))
 ((aC l s0).bind fun y1=>
 (aZ y1 1 2000).bind fun y2=>
 cond (!y2)
 (some (.inr (.inr false)))
 (some (.inl (aL (s0+1)))))
 (some (.inr (.inl ())))
instance (l:List Int):bm (lD l):=⟨fun s0=>(.sl (l.map aG)::(U 4 (.sl (l.map aG)::vi (l.length:Int)::vi s0::(U 10 [])))),fun s0=>[]⟩
def gO(l:List Int):Option Bool:=
 (aD (lD l) NN 0).bind (bl (fun o0=>
 some (decide ((l.length:Int)=3))) (fun r=>some r))
instance (l:List Int):CT Tryz.prog (gO l):=⟨199,[.sl (l.map aG)],[],fun r=>vb r,fun r=>[],fun H=>by replace H:=H0 H;unfold gO at H;exact aA Tryz.func199 rfl Tryz.ntmps199 Tryz.results199 fun Q hQ cR=>dU⟩
def oc(cq:List Int):Option Int:=
 (gO cq).bind fun y1=>
 cond (!y1)
 (some 0)
 ((mq cq).bind fun y2=>
 (aC y2 0).bind fun y3=>
 (aC y2 1).bind fun y4=>
 (aC y2 2).bind fun y5=>
 some (aL ((aL (y3+(aL (2*y4))))+(aL (2*y5)))))
instance (cq:List Int):CT Tryz.prog (oc cq):=⟨200,[.sl (cq.map aG)],[],fun r=>vi r,fun r=>[],fun H=>by replace H:=H0 H;unfold oc at H;exact aA Tryz.func200 rfl Tryz.ntmps200 Tryz.results200 fun Q hQ cR=>dU⟩
def od(l:dh):Option Bool:=
 (aZ l.ax 1 3).bind fun y1=>
 cond y1
 ((aZ l.fz 0 999999999).bind fun y2=>
 cond y2
 ((dI l.aV).bind fun y3=>
 some y3)
 (some false))
 (some false)
instance (l:dh):CT Tryz.prog (od l):=⟨198,[.ag (tr l)],[],fun r=>vb r,fun r=>[],fun H=>by replace H:=H0 H;unfold od at H;exact aA Tryz.func198 rfl Tryz.ntmps198 Tryz.results198 fun Q hQ cR=>dU⟩
def jC(p:a8):Option Bool:=
 (od p.label).bind fun y1=>
 cond y1
 ((dI p.ar).bind fun y2=>
 cond y2
 (cond (!decide (p.ar=p.label.aV))
 ((aZ p.ab 1 30000).bind fun y3=>
 cond y3
 ((gO p.cq).bind fun y4=>
 cond y4
 ((oc p.cq).bind fun y5=>
 cond (decide (y5≤3600))
 ((aZ p.value 0 500000).bind fun y6=>
 some y6)
 (some false))
 (some false))
 (some false))
 (some false))
 (some false))
 (some false)
instance (p:a8):CT Tryz.prog (jC p):=⟨104,[.ag (bS p)],[],fun r=>vb r,fun r=>[],fun H=>by replace H:=H0 H;unfold jC at H;exact aA Tryz.func104 rfl Tryz.ntmps104 Tryz.results104 fun Q hQ cR=>dU⟩
def hX(a:List Int)(b:List Int)(s0:Int):Option (Int⊕(Unit⊕Bool)):=
 cond (decide (s0<(a.length:Int)))
 ((aC a s0).bind fun y1=>
 (aC b s0).bind fun y2=>
 cond (!decide (y1=y2))
 (some (.inr (.inr false)))
 (some (.inl (aL (s0+1)))))
 (some (.inr (.inl ())))
instance (a:List Int)(b:List Int):bm (hX a b):=⟨fun s0=>(.sl (a.map aG)::.sl (b.map aG)::(U 10 (vi (a.length:Int)::vi s0::(U 12 [])))),fun s0=>[]⟩
def eX(a:List Int)(b:List Int):Option Bool:=
 cond (!decide ((a.length:Int)=(b.length:Int)))
 (some false)
 ((aD (hX a b) NN 0).bind (bl (fun o0=>
 some true) (fun r=>some r)))
instance (a:List Int)(b:List Int):CT Tryz.prog (eX a b):=⟨39,[.sl (a.map aG),.sl (b.map aG)],[],fun r=>vb r,fun r=>[],fun H=>by replace H:=H0 H;unfold eX at H;exact aA Tryz.func39 rfl Tryz.ntmps39 Tryz.results39 fun Q hQ cR=>dU⟩
def iJ(a:a8)(b:a8):Option Bool:=
 cond (decide (a.label=b.label))
 (cond (decide (a.ar=b.ar))
 (cond (decide (a.ab=b.ab))
 ((eX a.cq b.cq).bind fun y1=>
 cond y1
 (some (decide (a.value=b.value)))
 (some false))
 (some false))
 (some false))
 (some false)
instance (a:a8)(b:a8):CT Tryz.prog (iJ a b):=⟨41,[.ag (bS a),.ag (bS b)],[],fun r=>vb r,fun r=>[],fun H=>by replace H:=H0 H;unfold iJ at H;exact aA Tryz.func41 rfl Tryz.ntmps41 Tryz.results41 fun Q hQ cR=>dU⟩
def kW(a:cg)(b:cg):Option Bool:=
 cond (decide (a.kind=b.kind))
 ((iJ a.aT b.aT).bind fun y1=>
 cond y1
 (cond (decide (a.order=b.order))
 (cond (decide (a.bz=b.bz))
 (cond (decide (a.bH=b.bH))
 (some (decide (a.bf=b.bf)))
 (some false))
 (some false))
 (some false))
 (some false))
 (some false)
instance (a:cg)(b:cg):CT Tryz.prog (kW a b):=⟨42,[.ag (ig a),.ag (ig b)],[],fun r=>vb r,fun r=>[],fun H=>by replace H:=H0 H;unfold kW at H;exact aA Tryz.func42 rfl Tryz.ntmps42 Tryz.results42 fun Q hQ cR=>dU⟩
def gH(a:cg):Option Bool:=
 (jn 3 22 (
 cond (decide (a.kind=1))
 ((jC a.aT).bind fun y1=>
 some (.inl (y1,a.aT.label.ax,a.aT.label.fz,a.aT.label.aV,a.aT.ar,a.aT.ab,a.aT.cq,a.aT.value,0,0,0,0,0)))
 (cond (decide (a.kind=2))
 ((aZ a.order 1 9999).bind fun y2=>
 cond y2
 ((aZ a.bz 1 100000).bind fun y3=>
 some (.inl (y3,0,0,⟨#[]⟩,⟨#[]⟩,0,[],0,a.order,a.bz,0,0,0)))
 (some (.inl (false,0,0,⟨#[]⟩,⟨#[]⟩,0,[],0,a.order,a.bz,0,0,0))))
 (cond (decide (a.kind=3))
 ((aZ a.bH 0 100000).bind fun y4=>
 some (.inl (y4,0,0,⟨#[]⟩,⟨#[]⟩,0,[],0,0,0,a.bH,0,0)))
 (cond (decide (a.kind=4))
 ((aZ a.bf.bx 0 19).bind fun y5=>
 cond y5
 ((aZ a.bf.day 0 60).bind fun y6=>
 some (.inl (y6,0,0,⟨#[]⟩,⟨#[]⟩,0,[],0,0,0,0,a.bf.bx,a.bf.day)))
 (some (.inl (false,0,0,⟨#[]⟩,⟨#[]⟩,0,[],0,0,0,0,a.bf.bx,a.bf.day))))
 (cond (decide (a.kind=5))
 (some (.inl (true,0,0,⟨#[]⟩,⟨#[]⟩,0,[],0,0,0,0,0,0)))
 (cond (decide (a.kind=6))
 ((aZ a.order 1 9999).bind fun y7=>
 some (.inl (y7,0,0,⟨#[]⟩,⟨#[]⟩,0,[],0,a.order,0,0,0,0)))
 (some (.inl (false,0,0,⟨#[]⟩,⟨#[]⟩,0,[],0,0,0,0,0,0)))))))):Option ((Bool×Int×Int×ByteArray×ByteArray×Int×(List Int)×Int×Int×Int×Int×Int×Int)⊕Empty)) (fun z8=>(.un::.be 0 0 0::.un::.be 1 0 0::vb z8.1::(U 68 []))) (fun z8=>[some ⟨.of 48,13,[[vi a.kind,vi a.aT.label.ax,vi a.aT.label.fz,vs a.aT.label.aV,vs a.aT.ar,vi a.aT.ab,.sl (a.aT.cq.map aG),vi a.aT.value,vi a.order,vi a.bz,vi a.bH,vi a.bf.bx,vi a.bf.day]]⟩,some ⟨.of 48,13,[[vi a.kind,vi z8.2.1,vi z8.2.2.1,vs z8.2.2.2.1,vs z8.2.2.2.2.1,vi z8.2.2.2.2.2.1,.sl (z8.2.2.2.2.2.2.1.map aG),vi z8.2.2.2.2.2.2.2.1,vi z8.2.2.2.2.2.2.2.2.1,vi z8.2.2.2.2.2.2.2.2.2.1,vi z8.2.2.2.2.2.2.2.2.2.2.1,vi z8.2.2.2.2.2.2.2.2.2.2.2.1,vi z8.2.2.2.2.2.2.2.2.2.2.2.2]]⟩])).bind (bl (fun z8=>
 cond z8.1
 ((kW a (⟨a.kind,(⟨(⟨z8.2.1,z8.2.2.1,z8.2.2.2.1⟩:dh),z8.2.2.2.2.1,z8.2.2.2.2.2.1,z8.2.2.2.2.2.2.1,z8.2.2.2.2.2.2.2.1⟩:a8),z8.2.2.2.2.2.2.2.2.1,z8.2.2.2.2.2.2.2.2.2.1,z8.2.2.2.2.2.2.2.2.2.2.1,(⟨z8.2.2.2.2.2.2.2.2.2.2.2.1,z8.2.2.2.2.2.2.2.2.2.2.2.2⟩:au)⟩:cg)).bind fun y9=>
 some y9)
 (some false)) (fun r=>nomatch r))
instance (a:cg):CT Tryz.prog (gH a):=⟨31,[.ag (ig a)],[],fun r=>vb r,fun r=>[],fun H=>by replace H:=H0 H;unfold gH at H;exact aA Tryz.func31 rfl Tryz.ntmps31 Tryz.results31 fun Q hQ cR=>dU⟩
def dR(l:List Int):Option (List Int):=
 (cL (bo ((([]:List Int):List Int).length+(l:List Int).length) 8)).bind fun _=>
 some ((([]:List Int):List Int)++l)
instance (l:List Int):CT Tryz.prog (dR l):=⟨126,[.sl (l.map aG)],[],fun r=>.ms 0,fun r=>[some ⟨.of 3,1,r.map aG⟩],fun H=>by replace H:=H0 H;unfold dR at H;exact aA Tryz.func126 rfl Tryz.ntmps126 Tryz.results126 fun Q hQ cR=>dU⟩
def cr(l:List Int)(s0:Int×(List Int))(s1:Int):Option (Int⊕Int):=
 cond (decide (s1<(s0.2.length:Int)))
 ((aC s0.2 s1).bind fun y1=>
 (aC l s0.1).bind fun y2=>
 cond (decide (y2≤y1))
 (some (.inl (aL (s1+1))))
 (some (.inr s1)))
 (some (.inr s1))
instance (l:List Int)(s0:Int×(List Int)):bm (cr l s0):=⟨fun s1=>(.sl (l.map aG)::.un::.un::.ms 0::vi s0.1::vi s1::(U 39 [])),fun s1=>[some ⟨.of 3,1,s0.2.map aG⟩]⟩
def fN(l:List Int)(s0:Int×(List Int)):Option ((Int×(List Int))⊕(List Int)):=
 cond (decide (s0.1<(l.length:Int)))
 ((aD (cr l s0) NN 0).bind (fun o1=>
 (cL (gA 0 o1 s0.2.length)).bind fun _=>
 (dR (cD s0.2 0 o1)).bind fun y3=>
 (aC l s0.1).bind fun y4=>
 (cL (bo ((y3:List Int).length+([y4]:List Int).length) 8)).bind fun _=>
 (cL (gA o1 (s0.2.length:Int) s0.2.length)).bind fun _=>
 (cL (bo ((((y3:List Int)++[y4]):List Int).length+((cD s0.2 o1 (s0.2.length:Int)):List Int).length) 8)).bind fun _=>
 some (.inl ((aL (s0.1+1)),((((y3:List Int)++[y4]):List Int)++(cD s0.2 o1 (s0.2.length:Int)))))))
 (some (.inr s0.2))
instance (l:List Int):bm (fN l):=⟨fun s0=>(.sl (l.map aG)::.un::.un::.ms 0::vi s0.1::(U 40 [])),fun s0=>[some ⟨.of 3,1,s0.2.map aG⟩]⟩
def mG(l:List Int):Option (List Int):=
 (aD (fN l) NN (0,([]:List Int))).bind (fun o0=>
 some o0)
instance (l:List Int):CT Tryz.prog (mG l):=⟨292,[.sl (l.map aG)],[],fun r=>.ms 0,fun r=>[some ⟨.of 3,1,r.map aG⟩],fun H=>by replace H:=H0 H;unfold mG at H;exact aA Tryz.func292 rfl Tryz.ntmps292 Tryz.results292 fun Q hQ cR=>dU⟩
def gW(l:List Int)(s0:Int):Option (Int⊕(Unit⊕Bool)):=
 cond (decide (s0<(l.length:Int)))
 ((aC l s0).bind fun y1=>
 (bg y1 1 2000).bind fun y2=>
 cond (!y2)
 (some (.inr (.inr false)))
 (some (.inl (aL (s0+1)))))
 (some (.inr (.inl ())))
instance (l:List Int):bm (gW l):=⟨fun s0=>(.sl (l.map aG)::.un::.un::vi s0::(U 15 [])),fun s0=>[]⟩
def gV(l:List Int):Option Bool:=
 (aD (gW l) NN 0).bind (bl (fun o0=>
 some (decide ((l.length:Int)=3))) (fun r=>some r))
instance (l:List Int):CT Tryz.prog (gV l):=⟨231,[.sl (l.map aG)],[],fun r=>vb r,fun r=>[],fun H=>by replace H:=H0 H;unfold gV at H;exact aA Tryz.func231 rfl Tryz.ntmps231 Tryz.results231 fun Q hQ cR=>dU⟩
def mD(cq:List Int):Option Int:=
 (gV cq).bind fun y1=>
 cond (!y1)
 (some 0)
 ((mG cq).bind fun y2=>
 (aC y2 0).bind fun y3=>
 (aC y2 1).bind fun y4=>
 (aC y2 2).bind fun y5=>
 some (aL ((aL (y3+(aL (2*y4))))+(aL (2*y5)))))
instance (cq:List Int):CT Tryz.prog (mD cq):=⟨232,[.sl (cq.map aG)],[],fun r=>vi r,fun r=>[],fun H=>by replace H:=H0 H;unfold mD at H;exact aA Tryz.func232 rfl Tryz.ntmps232 Tryz.results232 fun Q hQ cR=>dU⟩
def mE(l:dh):Option Bool:=
 (bg l.ax 1 3).bind fun y1=>
 cond y1
 ((bg l.fz 0 999999999).bind fun y2=>
 cond y2
 ((cM l.aV).bind fun y3=>
 some y3)
 (some false))
 (some false)
instance (l:dh):CT Tryz.prog (mE l):=⟨230,[.ag (tr l)],[],fun r=>vb r,fun r=>[],fun H=>by replace H:=H0 H;unfold mE at H;exact aA Tryz.func230 rfl Tryz.ntmps230 Tryz.results230 fun Q hQ cR=>dU⟩
def iu(p:a8):Option Bool:=
 (mE p.label).bind fun y1=>
 cond y1
 ((cM p.ar).bind fun y2=>
 cond y2
 (cond (!decide (p.ar=p.label.aV))
 ((bg p.ab 1 30000).bind fun y3=>
 cond y3
 ((gV p.cq).bind fun y4=>
 cond y4
 ((mD p.cq).bind fun y5=>
 cond (decide (y5≤3600))
 ((bg p.value 0 500000).bind fun y6=>
 some y6)
 (some false))
 (some false))
 (some false))
 (some false))
 (some false))
 (some false)
instance (p:a8):CT Tryz.prog (iu p):=⟨134,[.ag (bS p)],[],fun r=>vb r,fun r=>[],fun H=>by replace H:=H0 H;unfold iu at H;exact aA Tryz.func134 rfl Tryz.ntmps134 Tryz.results134 fun Q hQ cR=>dU⟩
def nd(a:cg):Option Bool:=
 (jn 2 7 (
 cond (decide (a.kind=1))
 ((iu a.aT).bind fun y1=>
 cond (!y1)
 (some (.inr false))
 (some (.inl ())))
 (cond (!decide (a.aT.label=(⟨0,0,⟨#[]⟩⟩:dh)))
 (some (.inr false))
 (cond (!decide (a.aT.ar=⟨#[]⟩))
 (some (.inr false))
 (cond (!decide (a.aT.ab=0))
 (some (.inr false))
 (cond (decide (0<(a.aT.cq.length:Int)))
 (some (.inr false))
 (cond (!decide (a.aT.value=0))
 (some (.inr false))
 (some (.inl ()))))))):Option (Unit⊕Bool)) (fun z2=>(.un::.be 0 0 0::(U 129 []))) (fun z2=>[some ⟨.of 48,13,[[vi a.kind,vi a.aT.label.ax,vi a.aT.label.fz,vs a.aT.label.aV,vs a.aT.ar,vi a.aT.ab,.sl (a.aT.cq.map aG),vi a.aT.value,vi a.order,vi a.bz,vi a.bH,vi a.bf.bx,vi a.bf.day]]⟩])).bind (bl (fun z2=>
 (jn 7 8 (
 cond (decide (a.kind=2))
 (some (.inl true))
 (some (.inl (decide (a.kind=6)))):Option (Bool⊕Empty)) (fun z3=>(.un::.be 0 0 0::.un::.un::vb z3::(U 126 []))) (fun z3=>[some ⟨.of 48,13,[[vi a.kind,vi a.aT.label.ax,vi a.aT.label.fz,vs a.aT.label.aV,vs a.aT.ar,vi a.aT.ab,.sl (a.aT.cq.map aG),vi a.aT.value,vi a.order,vi a.bz,vi a.bH,vi a.bf.bx,vi a.bf.day]]⟩])).bind (bl (fun z3=>
 (jn 8 10 (
 cond z3
 ((bg a.order 1 9999).bind fun y4=>
 cond (!y4)
 (some (.inr false))
 (cond (!z3)
 (cond (!decide (a.order=0))
 (some (.inr false))
 (some (.inl ())))
 (some (.inl ()))))
 (cond (!z3)
 (cond (!decide (a.order=0))
 (some (.inr false))
 (some (.inl ())))
 (some (.inl ()))):Option (Unit⊕Bool)) (fun z5=>(.un::.be 0 0 0::(U 129 []))) (fun z5=>[some ⟨.of 48,13,[[vi a.kind,vi a.aT.label.ax,vi a.aT.label.fz,vs a.aT.label.aV,vs a.aT.ar,vi a.aT.ab,.sl (a.aT.cq.map aG),vi a.aT.value,vi a.order,vi a.bz,vi a.bH,vi a.bf.bx,vi a.bf.day]]⟩])).bind (bl (fun z5=>
 (jn 10 12 (
 cond (decide (a.kind=2))
 ((bg a.bz 1 100000).bind fun y6=>
 cond (!y6)
 (some (.inr false))
 (cond (!decide (a.kind=2))
 (cond (!decide (a.bz=0))
 (some (.inr false))
 (some (.inl ())))
 (some (.inl ()))))
 (cond (!decide (a.kind=2))
 (cond (!decide (a.bz=0))
 (some (.inr false))
 (some (.inl ())))
 (some (.inl ()))):Option (Unit⊕Bool)) (fun z7=>(.un::.be 0 0 0::(U 129 []))) (fun z7=>[some ⟨.of 48,13,[[vi a.kind,vi a.aT.label.ax,vi a.aT.label.fz,vs a.aT.label.aV,vs a.aT.ar,vi a.aT.ab,.sl (a.aT.cq.map aG),vi a.aT.value,vi a.order,vi a.bz,vi a.bH,vi a.bf.bx,vi a.bf.day]]⟩])).bind (bl (fun z7=>
 (jn 12 14 (
 cond (decide (a.kind=3))
 ((bg a.bH 0 100000).bind fun y8=>
 cond (!y8)
 (some (.inr false))
 (cond (!decide (a.kind=3))
 (cond (!decide (a.bH=0))
 (some (.inr false))
 (some (.inl ())))
 (some (.inl ()))))
 (cond (!decide (a.kind=3))
 (cond (!decide (a.bH=0))
 (some (.inr false))
 (some (.inl ())))
 (some (.inl ()))):Option (Unit⊕Bool)) (fun z9=>(.un::.be 0 0 0::(U 129 []))) (fun z9=>[some ⟨.of 48,13,[[vi a.kind,vi a.aT.label.ax,vi a.aT.label.fz,vs a.aT.label.aV,vs a.aT.ar,vi a.aT.ab,.sl (a.aT.cq.map aG),vi a.aT.value,vi a.order,vi a.bz,vi a.bH,vi a.bf.bx,vi a.bf.day]]⟩])).bind (bl (fun z9=>
 (jn 14 16 (
 cond (decide (a.kind=4))
 ((bg a.bf.bx 0 19).bind fun dM=>
 cond (!dM)
 (some (.inr false))
 ((bg a.bf.day 0 60).bind fun jx=>
 cond (!jx)
 (some (.inr false))
 (cond (!decide (a.kind=4))
 (cond (!decide (a.bf=(⟨0,0⟩:au)))
 (some (.inr false))
 (some (.inl ())))
 (some (.inl ())))))
 (cond (!decide (a.kind=4))
 (cond (!decide (a.bf=(⟨0,0⟩:au)))
 (some (.inr false))
 (some (.inl ())))
 (some (.inl ()))):Option (Unit⊕Bool)) (fun z12=>(.un::.be 0 0 0::(U 129 []))) (fun z12=>[some ⟨.of 48,13,[[vi a.kind,vi a.aT.label.ax,vi a.aT.label.fz,vs a.aT.label.aV,vs a.aT.ar,vi a.aT.ab,.sl (a.aT.cq.map aG),vi a.aT.value,vi a.order,vi a.bz,vi a.bH,vi a.bf.bx,vi a.bf.day]]⟩])).bind (bl (fun z12=>
 (bg a.kind 1 6).bind fun lZ=>
 some lZ) (fun r=>some r))) (fun r=>some r))) (fun r=>some r))) (fun r=>some r))) (fun r=>nomatch r))) (fun r=>some r))
instance (a:cg):CT Tryz.prog (nd a):=⟨52,[.ag (ig a)],[],fun r=>vb r,fun r=>[],fun H=>by replace H:=H0 H;unfold nd at H;exact aA Tryz.func52 rfl Tryz.ntmps52 Tryz.results52 fun Q hQ cR=>dU⟩
end Go.Proofs.YtbalgkakkoocjaaGreat
namespace Go.Proofs.YtbalgkakkoocjaaGreat
set_option maxRecDepth 10000
open Go.RowKit Go.Sort
set_option maxHeartbeats 1000000
variable {l:List Int}{n:Nat}{ο σ:Type}{body:σ→Option (σ⊕ο)}{o:ο}{s:σ}
theorem PB:@lD=@gW:=by
 funext l i;unfold lD gW;rw[fV]
theorem DM(l:List Int):gO l=gV l:=by
 unfold gO gV;rw[PB]
def xU(l:List Int):Bool:=l.all (fun n=>decide (1≤n)&&decide (n≤2000))&&decide ((l.length:Int)=3)
theorem Ho(h:l.length<NN):gV l=some (xU l):=by
 have e:aD (gW l) NN 0=some (if l.any (fun n=>!(decide (1≤n)&&decide (n≤2000)))=true then .inr false else .inl ()):=by
  refine tV (fun i hi=>?_) ?_ h
  ·have hx:l[i]?=some l[i]:=VT hi
   have hw:=bI hi (by unfold NN at h;omega)
   unfold gW
   rw[decide_eq_true (by omega:(i:Int)<l.length),cond_true,aR,hx,VS,dt,VS,hw]
   cases(decide (1≤l[i])&&decide (l[i]≤2000))<;>rfl
  ·unfold gW
   rw[decide_eq_false (by omega:¬((l.length:Int)<l.length))];rfl
 unfold gV xU
 rw[e,List.all_eq_not_any_not]
 cases l.any (fun n=>!(decide (1≤n)&&decide (n≤2000)))<;>rfl
theorem E5{σ ο:Type}{body:σ→Option (σ⊕ο)}{o:ο}:∀{n:Nat} {s:σ},aD body n s=some o→∀k,aD body (n+k) s=some o
 |0,s,h,k=>by cases h
 |n+1,s,h,k=>by
  rw[Nat.add_right_comm]
  unfold aD at *
  cases hb:body s with
  |none=>rw[hb]at h;cases h
  |some x=>
   rw[hb]at h
   cases x with
   |inl s'=>exact E5 (n:=n) h k
   |inr o'=>exact h
theorem Bv(h:aD body n s=some o)(hn:n≤NN):aD body NN s=some o:=by
 have:=E5 h (NN-n)
 rwa[Nat.add_sub_cancel' hn]at this
theorem Ee{s s':σ}(h:body s=some (.inl s')):aD body (n+1) s=aD body n s':=by
 show(body s).bind _=_
 rw[h];rfl
theorem PX(h:body s=some (.inr o)):aD body (n+1) s=some o:=by
 show(body s).bind _=_
 rw[h];rfl
theorem w1:aL 1=1:=by decide
theorem w2:aL 2=2:=by decide
theorem w3:aL 3=3:=by decide
theorem Zfk(l:List Int)(i:Int):aD (cr l (i,[])) NN 0=some ((0:Nat):Int):=Bv (n:=1) (PX (by simp[cr])) (by unfold NN;omega)
theorem Zfl{i y a:Int}(h:aC l i=some y):aD (cr l (i,[a])) NN 0=some (((if y≤a then 1 else 0:Nat)):Int):=by
 refine Bv (n:=2) ?_ (by unfold NN;omega)
 have q0:aC [a] 0=some a:=rfl
 by_cases h1:y≤a
 ·rw[if_pos h1,Ee (s':=1) (by simp[cr,h,q0,h1,w1]),PX (o:=1) (by simp[cr])];rfl
 ·rw[if_neg h1,PX (o:=0) (by simp[cr,h,q0,h1])];rfl
theorem Zfm{i y a b:Int}(h:aC l i=some y):aD (cr l (i,[a,b])) NN 0=some (((if y≤a then(if y≤b then 2 else 1)else 0:Nat)):Int):=by
 refine Bv (n:=3) ?_ (by unfold NN;omega)
 have q0:aC [a,b] 0=some a:=rfl
 have q1:aC [a,b] 1=some b:=rfl
 by_cases h1:y≤a
 ·rw[if_pos h1,Ee (s':=1) (by simp[cr,h,q0,h1,w1])]
  by_cases h2:y≤b
  ·rw[if_pos h2,Ee (s':=2) (by simp[cr,h,q1,h2,w2]),PX (o:=2) (by simp[cr])];rfl
  ·rw[if_neg h2,PX (o:=1) (by simp[cr,h,q1,h2])];rfl
 ·rw[if_neg h1,PX (o:=0) (by simp[cr,h,q0,h1])];rfl
theorem RJ(h:l.length≤1048576):dR l=some l:=by
 have c:cL (bo (([]:List Int).length+l.length) 8)=some ():=pR (decide_eq_true ⟨by simp;omega,by simp;omega⟩)
 unfold dR
 rw[c]
 rfl
theorem ZbD{l out:List Int}{i y:Int}{k:Nat}(hi:i<(l.length:Int))(hy:aC l i=some y)(hk:aD (cr l (i,out)) NN 0=some (k:Int))(hkl:k≤out.length)(hl:out.length≤1000):
 fN l (i,out)=some (.inl (aL (i+1),out.take k++[y]++out.drop k)):=by
 unfold fN
 have t1:cD out 0 (k:Int)=out.take k:=by simp[cD]
 have t2:cD out (k:Int) (out.length:Int)=out.drop k:=by simp only[cD,Int.toNat_natCast];exact Xi (by simp)
 have c1:cL (gA 0 (k:Int) (out.length:Int))=some ():=pR (decide_eq_true ⟨by omega,by omega,by omega⟩)
 have c2:cL (gA (k:Int) (out.length:Int) (out.length:Int))=some ():=pR (decide_eq_true ⟨by omega,by omega,by omega⟩)
 have c3:cL (bo ((out.take k).length+([y]:List Int).length) 8)=some ():=pR (decide_eq_true ⟨by simp;omega,by simp;omega⟩)
 have c4:cL (bo ((out.take k++[y]).length+(out.drop k).length) 8)=some ():=pR (decide_eq_true ⟨by simp;omega,by simp;omega⟩)
 simp only[decide_eq_true hi,cond_true,hk,VS,c1,t1,RJ (l:=out.take k) (by simp;omega),hy,c3,c2,t2,c4]
theorem SQ(x y z:Int):mG [x,y,z]=some (Bg [x,y,z]):=by
 have g0:aC [x,y,z] 0=some x:=rfl
 have g1:aC [x,y,z] 1=some y:=rfl
 have g2:aC [x,y,z] 2=some z:=rfl
 have e:aD (fN [x,y,z]) NN (0,[])=some (Bg [x,y,z]):=by
  refine Bv (n:=4) ?_ (by unfold NN;omega)
  have e0:=ZbD (l:=[x,y,z]) (by simp) g0 (Zfk _ _) (V3 _) (by simp)
  have hE:∀o:List Int,fN [x,y,z] (3,o)=some (.inr o):=fun o=>by simp[fN]
  simp only[List.take_nil,List.drop_nil,List.nil_append,List.append_nil,show aL ((0:Int)+1)=1 by decide]at e0
  have e1:=ZbD (l:=[x,y,z]) (out:=[x]) (by simp) g1 (Zfl g1) (by split<;>simp) (by simp)
  simp only[show aL ((1:Int)+1)=2 by decide]at e1
  have e2:=fun a b=>ZbD (l:=[x,y,z]) (out:=[a,b]) (by simp) g2 (Zfm g2) (by split<;>(try split)<;>simp) (by simp)
  simp only[show aL ((2:Int)+1)=3 by decide]at e2
  have hs:Bg [x,y,z]=(Sort.insertionSort Ax #[x,y,z] 0 3).toList:=rfl
  rw[hs]
  unfold Sort.insertionSort
  rw[insOuter,if_pos (by omega),insOuter,if_pos (by omega),insOuter,if_neg (by omega)]
  by_cases h1:y≤x
  ·have ML:¬x<y:=by omega
   rw[if_pos h1]at e1
   have yq:=e2 x y
   by_cases h2:z≤x
   ·by_cases h3:z≤y
    ·rw[if_pos h2,if_pos h3]at yq
     simp at e1 yq
     rw[Ee e0,Ee e1,Ee yq,PX (hE _)];simp[insInner,swp,Ax,ML,show ¬y<z by omega]
    ·rw[if_pos h2,if_neg h3]at yq
     simp at e1 yq
     rw[Ee e0,Ee e1,Ee yq,PX (hE _)];simp[insInner,swp,Ax,ML,show y<z by omega,show ¬x<z by omega]
   ·rw[if_neg h2]at yq
    simp at e1 yq
    rw[Ee e0,Ee e1,Ee yq,PX (hE _)];simp[insInner,swp,Ax,ML,show y<z by omega,show x<z by omega]
  ·have ML:x<y:=by omega
   rw[if_neg h1]at e1
   have yq:=e2 y x
   by_cases h2:z≤y
   ·by_cases h3:z≤x
    ·rw[if_pos h2,if_pos h3]at yq
     simp at e1 yq
     rw[Ee e0,Ee e1,Ee yq,PX (hE _)];simp[insInner,swp,Ax,ML,show ¬x<z by omega]
    ·rw[if_pos h2,if_neg h3]at yq
     simp at e1 yq
     rw[Ee e0,Ee e1,Ee yq,PX (hE _)];simp[insInner,swp,Ax,ML,show x<z by omega,show ¬y<z by omega]
   ·rw[if_neg h2]at yq
    simp at e1 yq
    rw[Ee e0,Ee e1,Ee yq,PX (hE _)];simp[insInner,swp,Ax,ML,show y<z by omega,show x<z by omega]
 unfold mG
 rw[e];rfl
theorem FI(h:xU l=true):l.length=3:=by
 unfold xU at h
 have:=(Bool.and_eq_true _ _▸h:_∧_).2
 have:=of_decide_eq_true this
 omega
theorem Q8(h:l.length<NN):oc l=mD l∧∃b,mD l=some b:=by
 unfold oc mD
 rw[DM,Ho h]
 cases ht:xU l with
 |false=>exact⟨rfl,_,rfl⟩
 |true=>
  have h3:=FI ht
  match l,h3 with
  | [x,y,z],_=>
   have hm:mq [x,y,z]=some (Bg [x,y,z]):=if_pos rfl
   have hl:=J5 [x,y,z]
   match hs:Bg [x,y,z],hl with
   | [a,b,c],_=>
    simp only[SQ,hm,hs,VS,V0,cond_false]
    exact⟨trivial,_,rfl⟩
theorem RK{l:dh}(h:l.aV.size≤xl):od l=mE l∧∃b,mE l=some b:=by
 obtain⟨e,b,hb⟩:=n9 h
 unfold od mE
 rw[fV,e,hb,dt,dt]
 refine⟨rfl,?_⟩
 cases(decide (1≤l.ax)&&decide (l.ax≤3))<;>cases(decide (0≤l.fz)&&decide (l.fz≤999999999))<;>exact⟨_,rfl⟩
theorem wK{p:a8}(h1:p.label.aV.size≤xl)(h2:p.ar.size≤xl)(h3:p.cq.length<NN):jC p=iu p∧∃b,iu p=some b:=by
 obtain⟨e1,b1,uY⟩:=RK h1
 obtain⟨e2,b2,zk⟩:=n9 h2
 obtain⟨e3,b3,hb3⟩:=Q8 h3
 unfold jC iu
 rw[fV,e1,e2,e3,DM,uY,zk,hb3,Ho h3,dt,dt]
 refine⟨rfl,?_⟩
 simp only[VS]
 generalize (decide (1≤p.ab)&&decide (p.ab≤30000))=c1
 generalize xU p.cq=c2
 generalize decide (b3≤3600)=c3
 generalize (!decide (p.ar=p.label.aV))=c4
 cases b1
 ·exact⟨_,rfl⟩
 cases b2
 ·exact⟨_,rfl⟩
 cases c4
 ·exact⟨_,rfl⟩
 cases c1
 ·exact⟨_,rfl⟩
 cases c2
 ·exact⟨_,rfl⟩
 cases c3<;>exact⟨_,rfl⟩
theorem ZbO{a b:List Int}(h:a.length<NN):eX a b=some (decide (a=b)):=by
 unfold eX
 by_cases hl:a.length=b.length
 ·have e:aD (hX a b) NN 0=some (if(List.range a.length).all (fun i=>decide (a[i]?=b[i]?))=true then .inl ()else .inr false):=by
   refine oa (fun i hi _=>?_) (fun _=>?_) h
   ·have hx:a[i]?=some a[i]:=VT hi
    have hy:b[i]?=some b[i]:=VT (by omega)
    have hw:=bI hi (by unfold NN at h;omega)
    unfold hX
    rw[decide_eq_true (by omega:(i:Int)<a.length),cond_true,aR,aR,hx,hy,VS,VS,hw]
    by_cases he:a[i]=b[i]<;>simp[he]
   ·unfold hX
    rw[decide_eq_false (by omega:¬((a.length:Int)<a.length))];rfl
  rw[decide_eq_true (by omega:(a.length:Int)=b.length),e]
  by_cases Ba:a=b
  ·subst Ba
   simp
  ·rw[if_neg,decide_eq_false Ba]
   ·rfl
   ·intro tt
    refine Ba (List.ext_getElem? fun i=>?_)
    by_cases hi:i<a.length
    ·exact of_decide_eq_true (V5.1 tt i (List.mem_range.2 hi))
    ·rw[Wy (by omega),Wy (by omega)]
 ·rw[decide_eq_false (by omega:¬((a.length:Int)=b.length)),decide_eq_false (fun e=>hl (by rw[e]))]
  rfl
theorem mP{ο α:Type}(i j:Nat)(J:Option (ο⊕α))(T:ο→List PV)(M:ο→Mem):jn i j J T M=J:=by unfold jn;rfl
theorem TJ(b c:Bool):(bif b then some c else some false)=some (b&&c):=by cases b<;>rfl
theorem ZcD(b c:Bool):(bif !b then some false else some c)=some (b&&c):=by cases b<;>rfl
theorem Qp{α β:Type}(b:Bool)(X Y:Option α)(S:α→Option β):(bif b then X else Y).bind S=bif b then X.bind S else Y.bind S:=by cases b<;>rfl
theorem xe{a b:a8}(h:a.cq.length<NN):iJ a b=some (decide (a.label=b.label)&&(decide (a.ar=b.ar)&&(decide (a.ab=b.ab)&&(decide (a.cq=b.cq)&&decide (a.value=b.value))))):=by
 unfold iJ
 simp only[ZbO h,VS,TJ]
theorem Dv{a b:cg}(h:a.aT.cq.length<NN):kW a b=some (decide (a.kind=b.kind)&&((decide (a.aT.label=b.aT.label)&&(decide (a.aT.ar=b.aT.ar)&&(decide (a.aT.ab=b.aT.ab)&&(decide (a.aT.cq=b.aT.cq)&&decide (a.aT.value=b.aT.value)))))&&(decide (a.order=b.order)&&(decide (a.bz=b.bz)&&(decide (a.bH=b.bH)&&decide (a.bf=b.bf)))))):=by
 unfold kW
 simp only[xe h,VS,TJ]
theorem FY{a:cg}(h1:a.aT.label.aV.size≤xl)(h2:a.aT.ar.size≤xl)(h3:a.aT.cq.length<NN):∃b,gH a=some b∧nd a=some b:=by
 obtain⟨e1,b1,uY⟩:=wK h1 h2 h3
 have hz:decide (0<(a.aT.cq.length:Int))=!decide (a.aT.cq=[]):=by
  cases a.aT.cq<;>simp
 unfold gH nd
 simp only[mP,fV,e1,uY,dt,Dv h3,hz,VS]
 generalize hq1:decide (a.aT.label=⟨0,0,⟨#[]⟩⟩)=q1
 generalize hq2:decide (a.aT.ar=⟨#[]⟩)=q2
 generalize hq3:decide (a.aT.ab=0)=q3
 generalize hq4:decide (a.aT.cq=[])=q4
 generalize hq5:decide (a.aT.value=0)=q5
 generalize hq6:decide (a.order=0)=q6
 generalize hq7:decide (a.bz=0)=q7
 generalize hq8:decide (a.bH=0)=q8
 generalize hq9:decide (a.bf=⟨0,0⟩)=q9
 have kk:a.kind=1∨a.kind=2∨a.kind=3∨a.kind=4∨a.kind=5∨a.kind=6∨(a.kind≠1∧a.kind≠2∧a.kind≠3∧a.kind≠4∧a.kind≠5∧a.kind≠6):=by omega
 rcases kk with k|k|k|k|k|k|⟨n1,n2,n3,n4,n5,n6⟩
 all_goals try(simp only[n1,n2,n3,n4,n5,n6,Yo,decide_true,decide_false,V0,Wz,cond_true,cond_false,VS,bl,Qp])
 all_goals try simp only[k,Yo,decide_true,decide_false,V0,Wz,cond_true,cond_false,VS,bl,Qp]
 case inr.inr.inr.inr.inr.inr=>
  have hf:(decide (1≤a.kind)&&decide (a.kind≤6))=false:=by
   rw[Bool.and_eq_false_iff,decide_eq_false_iff_not,decide_eq_false_iff_not];omega
  simp only[hf,TJ,ZcD,Bool.and_false]
  exact⟨_,rfl,rfl⟩
 all_goals
  simp only[hq1,hq2,hq3,hq4,hq5,hq6,hq7,hq8,hq9,TJ,ZcD,Bool.true_and,Bool.and_true,Int.reduceLE,decide_true]
  exact⟨_,rfl,by congr 1;try ac_rfl⟩
end Go.Proofs.YtbalgkakkoocjaaGreat
namespace Go.Proofs.YtbalgkakkoocjaaGreat
set_option maxRecDepth 10000
open Go.RowKit
set_option maxHeartbeats 16000000
variable {r:Bool}{w:World}
def qp(l:bM):Option Bool:=
 (dI l.ar).bind fun y1=>
 cond y1
 ((dI l.aV).bind fun y2=>
 cond y2
 (cond (!decide (l.ar=l.aV))
 ((aZ l.start 0 1439).bind fun y3=>
 cond y3
 ((aZ l.lT 1 4320).bind fun y4=>
 cond y4
 ((aZ l.tI 1 127).bind fun y5=>
 cond y5
 ((aZ l.fy 0 1000000).bind fun y6=>
 some y6)
 (some false))
 (some false))
 (some false))
 (some false))
 (some false))
 (some false)
instance (l:bM):CT Tryz.prog (qp l):=⟨307,[.ag (bp l)],[],fun r=>vb r,fun r=>[],fun H=>by replace H:=H0 H;unfold qp at H;exact aA Tryz.func307 rfl Tryz.ntmps307 Tryz.results307 fun Q hQ cR=>dU⟩
def l6(n:aj)(s0:Int):Option (Int⊕(Unit⊕Bool)):=
 cond (decide (s0<(n.ay.length:Int)))
 ((aC n.ay s0).bind fun y1=>
 (qp y1).bind fun y2=>
 cond (!y2)
 (some (.inr (.inr false)))
 (some (.inl (aL (s0+1)))))
 (some (.inr (.inl ())))
instance (n:aj):bm (l6 n):=⟨fun s0=>(.un::.be 0 0 0::(U 6 (.sl (n.ay.map bp)::vi (n.ay.length:Int)::vi s0::(U 48 [])))),fun s0=>[some ⟨.of 27,3,[[.sl (n.ay.map bp),.sl (n.off.map aG),vi n.change]]⟩]⟩
def l7(n:aj)(s1:Int):Option (Int⊕(Unit⊕Bool)):=
 cond (decide (s1<(n.off.length:Int)))
 ((aC n.off s1).bind fun y3=>
 (aZ y3 0 60).bind fun y4=>
 cond (!y4)
 (some (.inr (.inr false)))
 (cond (decide (0<s1))
 ((aC n.off (aL (s1-1))).bind fun y5=>
 cond (decide (y3≤y5))
 (some (.inr (.inr false)))
 (some (.inl (aL (s1+1)))))
 (some (.inl (aL (s1+1))))))
 (some (.inr (.inl ())))
instance (n:aj):bm (l7 n):=⟨fun s1=>(.un::.be 0 0 0::(U 17 (.sl (n.off.map aG)::vi (n.off.length:Int)::vi s1::(U 37 [])))),fun s1=>[some ⟨.of 27,3,[[.sl (n.ay.map bp),.sl (n.off.map aG),vi n.change]]⟩]⟩
def eU(n:aj):Option Bool:=
 (aD (l6 n) NN 0).bind (bl (fun o0=>
 (aD (l7 n) NN 0).bind (bl (fun o1=>
 cond (decide ((n.ay.length:Int)≤20))
 (cond (decide ((n.off.length:Int)≤10))
 ((aZ n.change 0 240).bind fun y6=>
 some y6)
 (some false))
 (some false)) (fun r=>some r))) (fun r=>some r))
instance (n:aj):CT Tryz.prog (eU n):=⟨261,[.ag (bA n)],[],fun r=>vb r,fun r=>[],fun H=>by replace H:=H0 H;unfold eU at H;exact aA Tryz.func261 rfl Tryz.ntmps261 Tryz.results261 fun Q hQ cR=>dU⟩
def fe(l:bM):Option Bool:=
 (cM l.ar).bind fun y1=>
 cond y1
 ((cM l.aV).bind fun y2=>
 cond y2
 (cond (!decide (l.ar=l.aV))
 ((bg l.start 0 1439).bind fun y3=>
 cond y3
 ((bg l.lT 1 4320).bind fun y4=>
 cond y4
 ((bg l.tI 1 127).bind fun y5=>
 cond y5
 ((bg l.fy 0 1000000).bind fun y6=>
 some y6)
 (some false))
 (some false))
 (some false))
 (some false))
 (some false))
 (some false)
instance (l:bM):CT Tryz.prog (fe l):=⟨320,[.ag (bp l)],[],fun r=>vb r,fun r=>[],fun H=>by replace H:=H0 H;unfold fe at H;exact aA Tryz.func320 rfl Tryz.ntmps320 Tryz.results320 fun Q hQ cR=>dU⟩
def bY(n:aj)(s0:Int):Option (Int⊕(Unit⊕Bool)):=
 cond (decide (s0<(n.ay.length:Int)))
 ((aC n.ay s0).bind fun y1=>
 (fe y1).bind fun y2=>
 cond (!y2)
 (some (.inr (.inr false)))
 (some (.inl (aL (s0+1)))))
 (some (.inr (.inl ())))
instance (n:aj):bm (bY n):=⟨fun s0=>(.un::.be 0 0 0::.un::vi s0::(U 62 [])),fun s0=>[some ⟨.of 27,3,[[.sl (n.ay.map bp),.sl (n.off.map aG),vi n.change]]⟩]⟩
def bZ(n:aj)(s1:Int):Option (Int⊕(Unit⊕Bool)):=
 cond (decide (s1<(n.off.length:Int)))
 ((aC n.off s1).bind fun y3=>
 (bg y3 0 60).bind fun y4=>
 cond (!y4)
 (some (.inr (.inr false)))
 (cond (decide (0<s1))
 ((aC n.off (aL (s1-1))).bind fun y5=>
 (aC n.off s1).bind fun y6=>
 cond (decide (y6≤y5))
 (some (.inr (.inr false)))
 (some (.inl (aL (s1+1)))))
 (some (.inl (aL (s1+1))))))
 (some (.inr (.inl ())))
instance (n:aj):bm (bZ n):=⟨fun s1=>(.un::.be 0 0 0::.un::.un::vi s1::(U 61 [])),fun s1=>[some ⟨.of 27,3,[[.sl (n.ay.map bp),.sl (n.off.map aG),vi n.change]]⟩]⟩
def aU(n:aj):Option Bool:=
 (aD (bY n) NN 0).bind (bl (fun o0=>
 (aD (bZ n) NN 0).bind (bl (fun o1=>
 cond (decide ((n.ay.length:Int)≤20))
 (cond (decide ((n.off.length:Int)≤10))
 ((bg n.change 0 240).bind fun y7=>
 some y7)
 (some false))
 (some false)) (fun r=>some r))) (fun r=>some r))
instance (n:aj):CT Tryz.prog (aU n):=⟨281,[.ag (bA n)],[],fun r=>vb r,fun r=>[],fun H=>by replace H:=H0 H;unfold aU at H;exact aA Tryz.func281 rfl Tryz.ntmps281 Tryz.results281 fun Q hQ cR=>dU⟩
def oi(n:aj)(day:Int)(s0:Int):Option (Int⊕(Unit⊕Bool)):=
 cond (decide (s0<(n.off.length:Int)))
 ((aC n.off s0).bind fun y3=>
 cond (decide (y3=day))
 (some (.inr (.inr false)))
 (some (.inl (aL (s0+1)))))
 (some (.inr (.inl ())))
instance (n:aj)(day:Int):bm (oi n day):=⟨fun s0=>(.un::.un::vi day::(U 34 (.sl (n.off.map aG)::vi (n.off.length:Int)::vi s0::(U 7 [])))),fun s0=>[]⟩
def oh(n:aj)(bx:Int)(day:Int):Option Bool:=
 cond (decide (bx<0))
 (some false)
 (cond (decide ((n.ay.length:Int)≤bx))
 (some false)
 ((aZ day 0 60).bind fun y1=>
 cond (!y1)
 (some false)
 ((aC n.ay bx).bind fun y2=>
 (cL (decide (0≤(XG day 7)))).bind fun _=>
 cond (decide ((IntKind.i64.wrap (Wn IntKind.i64.bits (Int.fdiv y2.tI (2 ^ (min (Wo (XG day 7)) IntKind.i64.bits))) &&& Wn IntKind.i64.bits 1).toNat)=0))
 (some false)
 ((aD (oi n day) NN 0).bind (bl (fun o0=>
 some true) (fun r=>some r))))))
instance (n:aj)(bx:Int)(day:Int):CT Tryz.prog (oh n bx day):=⟨308,[.ag (bA n),vi bx,vi day],[],fun r=>vb r,fun r=>[],fun H=>by replace H:=H0 H;unfold oh at H;exact aA Tryz.func308 rfl Tryz.ntmps308 Tryz.results308 fun Q hQ cR=>dU⟩
def pj(n:aj)(bx:Int)(day:Int):Option Bool:=
 (eU n).bind fun y1=>
 cond y1
 ((oh n bx day).bind fun y2=>
 some y2)
 (some false)
instance (n:aj)(bx:Int)(day:Int):CT Tryz.prog (pj n bx day):=⟨264,[.ag (bA n),vi bx,vi day],[],fun r=>vb r,fun r=>[],fun H=>by replace H:=H0 H;unfold pj at H;exact aA Tryz.func264 rfl Tryz.ntmps264 Tryz.results264 fun Q hQ cR=>dU⟩
def dN(n:aj)(t:au):Option Bool:=
 (pj n t.bx t.day).bind fun y1=>
 some y1
instance (n:aj)(t:au):CT Tryz.prog (dN n t):=⟨187,[.ag (bA n),.ag (aS t)],[],fun r=>vb r,fun r=>[],fun H=>by replace H:=H0 H;unfold dN at H;exact aA Tryz.func187 rfl Tryz.ntmps187 Tryz.results187 fun Q hQ cR=>dU⟩
def pH(l:List Int)(x:Int)(s0:Int):Option (Int⊕(Unit⊕Bool)):=
 cond (decide (s0<(l.length:Int)))
 ((aC l s0).bind fun y1=>
 cond (decide (y1=x))
 (some (.inr (.inr true)))
 (some (.inl (aL (s0+1)))))
 (some (.inr (.inl ())))
instance (l:List Int)(x:Int):bm (pH l x):=⟨fun s0=>(.sl (l.map aG)::vi x::(U 3 (vi s0::(U 12 [])))),fun s0=>[]⟩
def lR(l:List Int)(x:Int):Option Bool:=
 (aD (pH l x) NN 0).bind (bl (fun o0=>
 some false) (fun r=>some r))
instance (l:List Int)(x:Int):CT Tryz.prog (lR l x):=⟨284,[.sl (l.map aG),vi x],[],fun r=>vb r,fun r=>[],fun H=>by replace H:=H0 H;unfold lR at H;exact aA Tryz.func284 rfl Tryz.ntmps284 Tryz.results284 fun Q hQ cR=>dU⟩
def cx(n:aj)(bx:Int)(day:Int):Option Bool:=
 (bg bx 0 (aL ((n.ay.length:Int)-1))).bind fun y1=>
 cond y1
 ((bg day 0 60).bind fun y2=>
 cond y2
 ((aC n.ay bx).bind fun y3=>
 (cL (decide (0≤(XG day 7)))).bind fun _=>
 cond (decide ((IntKind.i64.wrap (Wn IntKind.i64.bits (Int.fdiv y3.tI (2 ^ (min (Wo (XG day 7)) IntKind.i64.bits))) &&& Wn IntKind.i64.bits 1).toNat)=1))
 ((lR n.off day).bind fun y4=>
 some (!y4))
 (some false))
 (some false))
 (some false)
instance (n:aj)(bx:Int)(day:Int):CT Tryz.prog (cx n bx day):=⟨220,[.ag (bA n),vi bx,vi day],[],fun r=>vb r,fun r=>[],fun H=>by replace H:=H0 H;unfold cx at H;exact aA Tryz.func220 rfl Tryz.ntmps220 Tryz.results220 fun Q hQ cR=>dU⟩
def jY(n:aj)(bx:Int)(day:Int):Option Bool:=
 (aU n).bind fun y1=>
 cond y1
 ((cx n bx day).bind fun y2=>
 some y2)
 (some false)
instance (n:aj)(bx:Int)(day:Int):CT Tryz.prog (jY n bx day):=⟨299,[.ag (bA n),vi bx,vi day],[],fun r=>vb r,fun r=>[],fun H=>by replace H:=H0 H;unfold jY at H;exact aA Tryz.func299 rfl Tryz.ntmps299 Tryz.results299 fun Q hQ cR=>dU⟩
def dF(n:aj)(t:au):Option Bool:=
 (jY n t.bx t.day).bind fun y1=>
 some y1
instance (n:aj)(t:au):CT Tryz.prog (dF n t):=⟨239,[.ag (bA n),.ag (aS t)],[],fun r=>vb r,fun r=>[],fun H=>by replace H:=H0 H;unfold dF at H;exact aA Tryz.func239 rfl Tryz.ntmps239 Tryz.results239 fun Q hQ cR=>dU⟩
def nP(l:List au)(t:au)(s0:Int):Option (Int⊕(Unit⊕Bool)):=
 cond (decide (s0<(l.length:Int)))
 ((aC l s0).bind fun y1=>
 cond (decide (y1=t))
 (some (.inr (.inr true)))
 (some (.inl (aL (s0+1)))))
 (some (.inr (.inl ())))
instance (l:List au)(t:au):bm (nP l t):=⟨fun s0=>(U 3 (.be 0 0 0::(U 3 (.sl (l.map aS)::vi (l.length:Int)::vi s0::(U 7 []))))),fun s0=>[some ⟨.of 46,2,[[vi t.bx,vi t.day]]⟩]⟩
def eM(l:List au)(t:au):Option Bool:=
 (aD (nP l t) NN 0).bind (bl (fun o0=>
 some false) (fun r=>some r))
instance (l:List au)(t:au):CT Tryz.prog (eM l t):=⟨188,[.sl (l.map aS),.ag (aS t)],[],fun r=>vb r,fun r=>[],fun H=>by replace H:=H0 H;unfold eM at H;exact aA Tryz.func188 rfl Tryz.ntmps188 Tryz.results188 fun Q hQ cR=>dU⟩
def sH(l:List au)(t:au)(s0:Int):Option (Int⊕(Unit⊕Bool)):=
 cond (decide (s0<(l.length:Int)))
 ((aC l s0).bind fun y1=>
 cond (decide (y1=t))
 (some (.inr (.inr true)))
 (some (.inl (aL (s0+1)))))
 (some (.inr (.inl ())))
instance (l:List au)(t:au):bm (sH l t):=⟨fun s0=>(.sl (l.map aS)::.un::.un::.be 0 0 0::.un::vi s0::(U 12 [])),fun s0=>[some ⟨.of 46,2,[[vi t.bx,vi t.day]]⟩]⟩
def df(l:List au)(t:au):Option Bool:=
 (aD (sH l t) NN 0).bind (bl (fun o0=>
 some false) (fun r=>some r))
instance (l:List au)(t:au):CT Tryz.prog (df l t):=⟨221,[.sl (l.map aS),.ag (aS t)],[],fun r=>vb r,fun r=>[],fun H=>by replace H:=H0 H;unfold df at H;exact aA Tryz.func221 rfl Tryz.ntmps221 Tryz.results221 fun Q hQ cR=>dU⟩
def oO(l:List ao)(t:au)(s0:Int×Int):Option ((Int×Int)⊕Int):=
 cond (decide (s0.2<(l.length:Int)))
 ((aC l s0.2).bind fun y1=>
 cond (decide (y1.bf=t))
 (some (.inl ((aL (s0.1+y1.ab)),(aL (s0.2+1)))))
 (some (.inl (s0.1,(aL (s0.2+1))))))
 (some (.inr s0.1))
instance (l:List ao)(t:au):bm (oO l t):=⟨fun s0=>(U 3 (.be 0 0 0::.un::vi s0.1::.un::.un::.sl (l.map aB)::vi (l.length:Int)::vi s0.2::(U 13 []))),fun s0=>[some ⟨.of 46,2,[[vi t.bx,vi t.day]]⟩]⟩
def jX(l:List ao)(t:au):Option Int:=
 (aD (oO l t) NN (0,0)).bind (fun o0=>
 some o0)
instance (l:List ao)(t:au):CT Tryz.prog (jX l t):=⟨263,[.sl (l.map aB),.ag (aS t)],[],fun r=>vi r,fun r=>[],fun H=>by replace H:=H0 H;unfold jX at H;exact aA Tryz.func263 rfl Tryz.ntmps263 Tryz.results263 fun Q hQ cR=>dU⟩
def dv(l:List ao)(t:au)(s0:Int×Int):Option ((Int×Int)⊕Int):=
 cond (decide (s0.2<(l.length:Int)))
 ((aC l s0.2).bind fun y1=>
 cond (decide (y1.bf=t))
 ((aC l s0.2).bind fun y2=>
 some (.inl ((aL (s0.1+y2.ab)),(aL (s0.2+1)))))
 (some (.inl (s0.1,(aL (s0.2+1))))))
 (some (.inr s0.1))
instance (l:List ao)(t:au):bm (dv l t):=⟨fun s0=>(.sl (l.map aB)::.un::.un::.be 0 0 0::.un::vi s0.1::vi s0.2::(U 21 [])),fun s0=>[some ⟨.of 46,2,[[vi t.bx,vi t.day]]⟩]⟩
def cY(l:List ao)(t:au):Option Int:=
 (aD (dv l t) NN (0,0)).bind (fun o0=>
 some o0)
instance (l:List ao)(t:au):CT Tryz.prog (cY l t):=⟨283,[.sl (l.map aB),.ag (aS t)],[],fun r=>vi r,fun r=>[],fun H=>by replace H:=H0 H;unfold cY at H;exact aA Tryz.func283 rfl Tryz.ntmps283 Tryz.results283 fun Q hQ cR=>dU⟩
def dO(a:Int)(b:Int):Option Int:=
 cond (decide (a<b))
 (some (-1))
 (cond (decide (b<a))
 (some 1)
 (some 0))
instance (a:Int)(b:Int):CT Tryz.prog (dO a b):=⟨194,[vi a,vi b],[],fun r=>vi r,fun r=>[],fun H=>by replace H:=H0 H;unfold dO at H;exact aA Tryz.func194 rfl Tryz.ntmps194 Tryz.results194 fun Q hQ cR=>dU⟩
def lj(a:ao)(b:ao):Option Bool:=
 cond (!decide (a.bf.day=b.bf.day))
 (some (decide (a.bf.day<b.bf.day)))
 (cond (!decide (a.bf.bx=b.bf.bx))
 (some (decide (a.bf.bx<b.bf.bx)))
 (some (decide (a.bk<b.bk))))
instance (a:ao)(b:ao):CT Tryz.prog (lj a b):=⟨282,[.ag (aB a),.ag (aB b)],[],fun r=>vb r,fun r=>[],fun H=>by replace H:=H0 H;unfold lj at H;exact aA Tryz.func282 rfl Tryz.ntmps282 Tryz.results282 fun Q hQ cR=>dU⟩
def iC(n:aj)(l:List ao)(s0:Int):Option (Int⊕(Unit⊕Bool)):=
 cond (decide (s0<(l.length:Int)))
 ((aC l s0).bind fun y2=>
 (cx n y2.bf.bx y2.bf.day).bind fun y3=>
 cond (!y3)
 (some (.inr (.inr false)))
 ((bg y2.bk 1 9999).bind fun y4=>
 cond (!y4)
 (some (.inr (.inr false)))
 ((bg y2.ab 1 1000000).bind fun y5=>
 cond (!y5)
 (some (.inr (.inr false)))
 (cond (decide (0<s0))
 ((aC l (aL (s0-1))).bind fun y6=>
 (lj y6 y2).bind fun y7=>
 cond (!y7)
 (some (.inr (.inr false)))
 (some (.inl (aL (s0+1)))))
 (some (.inl (aL (s0+1))))))))
 (some (.inr (.inl ())))
instance (n:aj)(l:List ao):bm (iC n l):=⟨fun s0=>(.un::.sl (l.map aB)::.be 0 0 0::.un::.un::vi s0::(U 80 [])),fun s0=>[some ⟨.of 27,3,[[.sl (n.ay.map bp),.sl (n.off.map aG),vi n.change]]⟩]⟩
def iD(n:aj)(l:List ao)(s1:Int):Option (Int⊕(Unit⊕Bool)):=
 cond (decide (s1<(l.length:Int)))
 ((aC l s1).bind fun y8=>
 (cY l y8.bf).bind fun y9=>
 (aC l s1).bind fun dM=>
 (aC n.ay dM.bf.bx).bind fun jx=>
 cond (decide (jx.fy<y9))
 (some (.inr (.inr false)))
 (some (.inl (aL (s1+1)))))
 (some (.inr (.inl ())))
instance (n:aj)(l:List ao):bm (iD n l):=⟨fun s1=>(.un::.sl (l.map aB)::.be 0 0 0::(U 4 (vi s1::(U 78 [])))),fun s1=>[some ⟨.of 27,3,[[.sl (n.ay.map bp),.sl (n.off.map aG),vi n.change]]⟩]⟩
def eH(n:aj)(l:List ao):Option Bool:=
 (aU n).bind fun y1=>
 cond (!y1)
 (some false)
 (cond (decide (120<(l.length:Int)))
 (some false)
 ((aD (iC n l) NN 0).bind (bl (fun o0=>
 (aD (iD n l) NN 0).bind (bl (fun o1=>
 some true) (fun r=>some r))) (fun r=>some r))))
instance (n:aj)(l:List ao):CT Tryz.prog (eH n l):=⟨219,[.ag (bA n),.sl (l.map aB)],[],fun r=>vb r,fun r=>[],fun H=>by replace H:=H0 H;unfold eH at H;exact aA Tryz.func219 rfl Tryz.ntmps219 Tryz.results219 fun Q hQ cR=>dU⟩
def pM(n:aj)(s0:Int×(List ByteArray))(y2:bM)(s1:Int):Option (Int⊕Int):=
 cond (decide (s1<(s0.2.length:Int)))
 ((aC s0.2 s1).bind fun y3=>
 cond (qB y3 y2.aV)
 (some (.inl (aL (s1+1))))
 (some (.inr s1)))
 (some (.inr s1))
instance (n:aj)(s0:Int×(List ByteArray))(y2:bM):bm (pM n s0 y2):=⟨fun s1=>(.un::.be 0 0 0::.un::.ms 1::vi s0.1::vs y2.aV::vi s1::(U 65 [])),fun s1=>[some ⟨.of 27,3,[[.sl (n.ay.map bp),.sl (n.off.map aG),vi n.change]]⟩,some ⟨.of 9,1,s0.2.map jH⟩]⟩
def pN(n:aj)(s0:Int×(List ByteArray))(y1:bM)(s2:Int):Option (Int⊕Int):=
 cond (decide (s2<(s0.2.length:Int)))
 ((aC s0.2 s2).bind fun y5=>
 cond (qB y5 y1.ar)
 (some (.inl (aL (s2+1))))
 (some (.inr s2)))
 (some (.inr s2))
instance (n:aj)(s0:Int×(List ByteArray))(y1:bM):bm (pN n s0 y1):=⟨fun s2=>(.un::.be 0 0 0::.un::.ms 1::vi s0.1::vs y1.ar::vi s2::(U 65 [])),fun s2=>[some ⟨.of 27,3,[[.sl (n.ay.map bp),.sl (n.off.map aG),vi n.change]]⟩,some ⟨.of 9,1,s0.2.map jH⟩]⟩
def iQ(n:aj)(s0:Int×(List ByteArray)):Option ((Int×(List ByteArray))⊕(List ByteArray)):=
 cond (decide (s0.1<(aL (2*(n.ay.length:Int)))))
 ((aC n.ay (IntKind.i64.wrap (Xk s0.1 2))).bind fun y1=>
 cond (decide ((XG s0.1 2)=1))
 ((aC n.ay (IntKind.i64.wrap (Xk s0.1 2))).bind fun y2=>
 (aD (pM n s0 y2) NN 0).bind (fun o1=>
 cond (decide (o1=(s0.2.length:Int)))
 ((cL (gA 0 o1 s0.2.length)).bind fun _=>
 (cL (bo ((([]:List ByteArray):List ByteArray).length+((cD s0.2 0 o1):List ByteArray).length) 16)).bind fun _=>
 (cL (bo ((((([]:List ByteArray):List ByteArray)++(cD s0.2 0 o1)):List ByteArray).length+([y2.aV]:List ByteArray).length) 16)).bind fun _=>
 (cL (gA o1 (s0.2.length:Int) s0.2.length)).bind fun _=>
 (cL (bo ((((((([]:List ByteArray):List ByteArray)++(cD s0.2 0 o1)):List ByteArray)++[y2.aV]):List ByteArray).length+((cD s0.2 o1 (s0.2.length:Int)):List ByteArray).length) 16)).bind fun _=>
 some (.inl ((aL (s0.1+1)),((((((([]:List ByteArray):List ByteArray)++(cD s0.2 0 o1)):List ByteArray)++[y2.aV]):List ByteArray)++(cD s0.2 o1 (s0.2.length:Int))))))
 ((aC s0.2 o1).bind fun y4=>
 cond (!decide (y4=y2.aV))
 ((cL (gA 0 o1 s0.2.length)).bind fun _=>
 (cL (bo ((([]:List ByteArray):List ByteArray).length+((cD s0.2 0 o1):List ByteArray).length) 16)).bind fun _=>
 (cL (bo ((((([]:List ByteArray):List ByteArray)++(cD s0.2 0 o1)):List ByteArray).length+([y2.aV]:List ByteArray).length) 16)).bind fun _=>
 (cL (gA o1 (s0.2.length:Int) s0.2.length)).bind fun _=>
 (cL (bo ((((((([]:List ByteArray):List ByteArray)++(cD s0.2 0 o1)):List ByteArray)++[y2.aV]):List ByteArray).length+((cD s0.2 o1 (s0.2.length:Int)):List ByteArray).length) 16)).bind fun _=>
 some (.inl ((aL (s0.1+1)),((((((([]:List ByteArray):List ByteArray)++(cD s0.2 0 o1)):List ByteArray)++[y2.aV]):List ByteArray)++(cD s0.2 o1 (s0.2.length:Int))))))
 (some (.inl ((aL (s0.1+1)),s0.2))))))
 ((aD (pN n s0 y1) NN 0).bind (fun o2=>
 cond (decide (o2=(s0.2.length:Int)))
 ((cL (gA 0 o2 s0.2.length)).bind fun _=>
 (cL (bo ((([]:List ByteArray):List ByteArray).length+((cD s0.2 0 o2):List ByteArray).length) 16)).bind fun _=>
 (cL (bo ((((([]:List ByteArray):List ByteArray)++(cD s0.2 0 o2)):List ByteArray).length+([y1.ar]:List ByteArray).length) 16)).bind fun _=>
 (cL (gA o2 (s0.2.length:Int) s0.2.length)).bind fun _=>
 (cL (bo ((((((([]:List ByteArray):List ByteArray)++(cD s0.2 0 o2)):List ByteArray)++[y1.ar]):List ByteArray).length+((cD s0.2 o2 (s0.2.length:Int)):List ByteArray).length) 16)).bind fun _=>
 some (.inl ((aL (s0.1+1)),((((((([]:List ByteArray):List ByteArray)++(cD s0.2 0 o2)):List ByteArray)++[y1.ar]):List ByteArray)++(cD s0.2 o2 (s0.2.length:Int))))))
 ((aC s0.2 o2).bind fun y6=>
 cond (!decide (y6=y1.ar))
 ((cL (gA 0 o2 s0.2.length)).bind fun _=>
 (cL (bo ((([]:List ByteArray):List ByteArray).length+((cD s0.2 0 o2):List ByteArray).length) 16)).bind fun _=>
 (cL (bo ((((([]:List ByteArray):List ByteArray)++(cD s0.2 0 o2)):List ByteArray).length+([y1.ar]:List ByteArray).length) 16)).bind fun _=>
 (cL (gA o2 (s0.2.length:Int) s0.2.length)).bind fun _=>
 (cL (bo ((((((([]:List ByteArray):List ByteArray)++(cD s0.2 0 o2)):List ByteArray)++[y1.ar]):List ByteArray).length+((cD s0.2 o2 (s0.2.length:Int)):List ByteArray).length) 16)).bind fun _=>
 some (.inl ((aL (s0.1+1)),((((((([]:List ByteArray):List ByteArray)++(cD s0.2 0 o2)):List ByteArray)++[y1.ar]):List ByteArray)++(cD s0.2 o2 (s0.2.length:Int))))))
 (some (.inl ((aL (s0.1+1)),s0.2)))))))
 (some (.inr s0.2))
instance (n:aj):bm (iQ n):=⟨fun s0=>(.un::.be 0 0 0::.un::.ms 1::vi s0.1::(U 67 [])),fun s0=>[some ⟨.of 27,3,[[.sl (n.ay.map bp),.sl (n.off.map aG),vi n.change]]⟩,some ⟨.of 9,1,s0.2.map jH⟩]⟩
def de(n:aj):Option (List ByteArray):=
 (aD (iQ n) NN (0,([]:List ByteArray))).bind (fun o0=>
 some o0)
instance (n:aj):CT Tryz.prog (de n):=⟨260,[.ag (bA n)],[],fun r=>.ms 0,fun r=>[some ⟨.of 9,1,r.map jH⟩],fun H=>by replace H:=H0 H;unfold de at H;exact aA Tryz.func260 rfl Tryz.ntmps260 Tryz.results260 fun Q hQ cR=>dU⟩
def jk(w:av)(id:Int)(t:au)(s0:Int):Option (Int⊕(Unit⊕Bool)):=
 cond (decide (s0<(w.aq.length:Int)))
 ((aC w.aq s0).bind fun y1=>
 cond (decide (y1.bk=id))
 (cond (decide (y1.bf=t))
 ((aC w.ah (aL (id-1))).bind fun y2=>
 some (.inr (.inr (decide (y1.ab=y2.ab)))))
 (some (.inl (aL (s0+1)))))
 (some (.inl (aL (s0+1)))))
 (some (.inr (.inl ())))
instance (w:av)(id:Int)(t:au):bm (jk w id t):=⟨fun s0=>(.un::vi id::.un::.be 0 0 0::.un::.be 1 0 0::(U 4 (.sl (w.aq.map aB)::vi (w.aq.length:Int)::vi s0::(U 24 [])))),fun s0=>[some ⟨.of 33,10,[[.sl (w.aa.ay.map bp),.sl (w.aa.off.map aG),vi w.aa.change,.sl (w.ah.map bc),.sl (w.aq.map aB),.sl (w.ae.map aS),vi w.now,.sl (w.aH.map bt),.sl (w.skip.map aG),vi w.bd]]⟩,some ⟨.of 46,2,[[vi t.bx,vi t.day]]⟩]⟩
def lA(w:av)(id:Int)(t:au):Option Bool:=
 (aD (jk w id t) NN 0).bind (bl (fun o0=>
 some false) (fun r=>some r))
instance (w:av)(id:Int)(t:au):CT Tryz.prog (lA w id t):=⟨268,[.ag (fK w),vi id,.ag (aS t)],[],fun r=>vb r,fun r=>[],fun H=>by replace H:=H0 H;unfold lA at H;exact aA Tryz.func268 rfl Tryz.ntmps268 Tryz.results268 fun Q hQ cR=>dU⟩
def kg(l:List bL)(s0:Int):Option (Int⊕(Unit⊕Bool)):=
 cond (decide (s0<(l.length:Int)))
 ((jn 3 6 (
 (aC l s0).bind fun y1=>
 (dI y1.first).bind fun y2=>
 cond (!y2)
 (some (.inr false))
 ((dI y1.last).bind fun y3=>
 cond (!y3)
 (some (.inr false))
 (cond (!Hg y1.first y1.last)
 (some (.inr false))
 (cond (decide (0<s0))
 ((aC l (aL (s0-1))).bind fun y4=>
 cond (Hg y1.first y4.last)
 (some (.inr false))
 (some (.inl ())))
 (some (.inl ()))))):Option (Unit⊕Bool)) (fun z5=>(.sl (l.map cK)::(U 4 (.sl (l.map cK)::vi (l.length:Int)::vi s0::(U 40 []))))) (fun z5=>[])).bind (bl (fun z5=>
 some (.inl (aL (s0+1)))) (fun r=>some (.inr (.inr r)))))
 (some (.inr (.inl ())))
instance (l:List bL):bm (kg l):=⟨fun s0=>(.sl (l.map cK)::(U 4 (.sl (l.map cK)::vi (l.length:Int)::vi s0::(U 40 [])))),fun s0=>[]⟩
def jB(l:List bL):Option Bool:=
 (aD (kg l) NN 0).bind (bl (fun o0=>
 some (decide ((l.length:Int)≤8))) (fun r=>some r))
instance (l:List bL):CT Tryz.prog (jB l):=⟨98,[.sl (l.map cK)],[],fun r=>vb r,fun r=>[],fun H=>by replace H:=H0 H;unfold jB at H;exact aA Tryz.func98 rfl Tryz.ntmps98 Tryz.results98 fun Q hQ cR=>dU⟩
def oP(l:List bL)(jF:ByteArray)(s0:Int):Option (Int⊕(Unit⊕Int)):=
 cond (decide (s0<(l.length:Int)))
 ((jn 5 8 (
 (aC l s0).bind fun y3=>
 cond (Hg y3.first jF)
 (cond (Hg jF y3.last)
 (some (.inr s0))
 (some (.inl ())))
 (some (.inl ())):Option (Unit⊕Int)) (fun z4=>(.un::vs jF::(U 13 (.sl (l.map cK)::vi (l.length:Int)::vi s0::(U 16 []))))) (fun z4=>[])).bind (bl (fun z4=>
 some (.inl (aL (s0+1)))) (fun r=>some (.inr (.inr r)))))
 (some (.inr (.inl ())))
instance (l:List bL)(jF:ByteArray):bm (oP l jF):=⟨fun s0=>(.un::vs jF::(U 13 (.sl (l.map cK)::vi (l.length:Int)::vi s0::(U 16 [])))),fun s0=>[]⟩
def pk(l:List bL)(jF:ByteArray):Option Int:=
 (jB l).bind fun y1=>
 cond (!y1)
 (some (-1))
 ((dI jF).bind fun y2=>
 cond (!y2)
 (some (-1))
 ((aD (oP l jF) NN 0).bind (bl (fun o0=>
 some (-1)) (fun r=>some r))))
instance (l:List bL)(jF:ByteArray):CT Tryz.prog (pk l jF):=⟨196,[.sl (l.map cK),vs jF],[],fun r=>vi r,fun r=>[],fun H=>by replace H:=H0 H;unfold pk at H;exact aA Tryz.func196 rfl Tryz.ntmps196 Tryz.results196 fun Q hQ cR=>dU⟩
def nv(cq:List Int):Option Int:=
 (gO cq).bind fun y1=>
 cond (!y1)
 (some 0)
 ((aC cq 0).bind fun y2=>
 (aC cq 1).bind fun y3=>
 (aC cq 2).bind fun y4=>
 some (aL ((aL (y2*y3))*y4)))
instance (cq:List Int):CT Tryz.prog (nv cq):=⟨271,[.sl (cq.map aG)],[],fun r=>vi r,fun r=>[],fun H=>by replace H:=H0 H;unfold nv at H;exact aA Tryz.func271 rfl Tryz.ntmps271 Tryz.results271 fun Q hQ cR=>dU⟩
def gZ(p:a8):Option Int:=
 (jC p).bind fun y1=>
 cond (!y1)
 (some 0)
 ((nv p.cq).bind fun y2=>
 some (if(IntKind.i64.wrap (Xk (aL (y2+4999)) 5000)) > p.ab then(IntKind.i64.wrap (Xk (aL (y2+4999)) 5000))else p.ab))
instance (p:a8):CT Tryz.prog (gZ p):=⟨197,[.ag (bS p)],[],fun r=>vi r,fun r=>[],fun H=>by replace H:=H0 H;unfold gZ at H;exact aA Tryz.func197 rfl Tryz.ntmps197 Tryz.results197 fun Q hQ cR=>dU⟩
def ks(l:List bL)(s0:Int):Option (Int⊕(Unit⊕Bool)):=
 cond (decide (s0<(l.length:Int)))
 ((jn 4 3 (
 (aC l s0).bind fun y1=>
 (cM y1.first).bind fun y2=>
 cond (!y2)
 (some (.inr false))
 ((aC l s0).bind fun y3=>
 (cM y3.last).bind fun y4=>
 cond (!y4)
 (some (.inr false))
 ((aC l s0).bind fun y5=>
 (aC l s0).bind fun y6=>
 cond (!Hg y5.first y6.last)
 (some (.inr false))
 (cond (decide (0<s0))
 ((aC l (aL (s0-1))).bind fun y7=>
 (aC l s0).bind fun y8=>
 cond (!qB y7.last y8.first)
 (some (.inr false))
 (some (.inl ())))
 (some (.inl ()))))):Option (Unit⊕Bool)) (fun z9=>(.sl (l.map cK)::.un::.un::vi s0::(U 56 []))) (fun z9=>[])).bind (bl (fun z9=>
 some (.inl (aL (s0+1)))) (fun r=>some (.inr (.inr r)))))
 (some (.inr (.inl ())))
instance (l:List bL):bm (ks l):=⟨fun s0=>(.sl (l.map cK)::.un::.un::vi s0::(U 56 [])),fun s0=>[]⟩
def jE(l:List bL):Option Bool:=
 (aD (ks l) NN 0).bind (bl (fun o0=>
 some (decide ((l.length:Int)≤8))) (fun r=>some r))
instance (l:List bL):CT Tryz.prog (jE l):=⟨129,[.sl (l.map cK)],[],fun r=>vb r,fun r=>[],fun H=>by replace H:=H0 H;unfold jE at H;exact aA Tryz.func129 rfl Tryz.ntmps129 Tryz.results129 fun Q hQ cR=>dU⟩
def oC(a:bN)(b:bN):Option Bool:=
 cond (decide (a.iY<b.iY))
 (some true)
 (cond (decide (b.iY=a.iY))
 (cond (decide (a.ax<b.ax))
 (some true)
 (cond (decide (b.ax=a.ax))
 (cond (decide (a.kI<b.kI))
 (some (decide (a.kJ≤b.kJ)))
 (some false))
 (some false)))
 (some false))
instance (a:bN)(b:bN):CT Tryz.prog (oC a b):=⟨225,[.ag (cO a),.ag (cO b)],[],fun r=>vb r,fun r=>[],fun H=>by replace H:=H0 H;unfold oC at H;exact aA Tryz.func225 rfl Tryz.ntmps225 Tryz.results225 fun Q hQ cR=>dU⟩
def kr(l:List bN)(aY:Int)(s0:Int):Option (Int⊕(Unit⊕Bool)):=
 cond (decide (s0<(l.length:Int)))
 ((jn 4 3 (
 (aC l s0).bind fun y1=>
 cond (decide (y1.iY<0))
 (some (.inr false))
 ((aC l s0).bind fun y2=>
 cond (decide (aY≤y2.iY))
 (some (.inr false))
 ((aC l s0).bind fun y3=>
 (bg y3.ax 1 3).bind fun y4=>
 cond (!y4)
 (some (.inr false))
 ((aC l s0).bind fun y5=>
 (bg y5.kI 1 1000000000).bind fun y6=>
 cond (!y6)
 (some (.inr false))
 ((aC l s0).bind fun y7=>
 (bg y7.kJ 0 100000).bind fun y8=>
 cond (!y8)
 (some (.inr false))
 (cond (decide (0<s0))
 ((aC l (aL (s0-1))).bind fun y9=>
 (aC l s0).bind fun dM=>
 (oC y9 dM).bind fun jx=>
 cond (!jx)
 (some (.inr false))
 (some (.inl ())))
 (some (.inl ()))))))):Option (Unit⊕Bool)) (fun z12=>(.sl (l.map cO)::vi aY::(U 3 (vi s0::(U 68 []))))) (fun z12=>[])).bind (bl (fun z12=>
 some (.inl (aL (s0+1)))) (fun r=>some (.inr (.inr r)))))
 (some (.inr (.inl ())))
instance (l:List bN)(aY:Int):bm (kr l aY):=⟨fun s0=>(.sl (l.map cO)::vi aY::(U 3 (vi s0::(U 68 [])))),fun s0=>[]⟩
def kY(l:List bN)(aY:Int):Option Bool:=
 (aD (kr l aY) NN 0).bind (bl (fun o0=>
 some (decide ((l.length:Int)≤24))) (fun r=>some r))
instance (l:List bN)(aY:Int):CT Tryz.prog (kY l aY):=⟨130,[.sl (l.map cO),vi aY],[],fun r=>vb r,fun r=>[],fun H=>by replace H:=H0 H;unfold kY at H;exact aA Tryz.func130 rfl Tryz.ntmps130 Tryz.results130 fun Q hQ cR=>dU⟩
def iR(l:List bL)(jF:ByteArray)(s0:Int):Option (Int⊕(Unit⊕Int)):=
 cond (decide (s0<(l.length:Int)))
 ((jn 6 5 (
 (aC l s0).bind fun y3=>
 cond (Hg y3.first jF)
 ((aC l s0).bind fun y4=>
 cond (Hg jF y4.last)
 (some (.inr s0))
 (some (.inl ())))
 (some (.inl ())):Option (Unit⊕Int)) (fun z5=>(.sl (l.map cK)::vs jF::(U 3 (vi s0::(U 31 []))))) (fun z5=>[])).bind (bl (fun z5=>
 some (.inl (aL (s0+1)))) (fun r=>some (.inr (.inr r)))))
 (some (.inr (.inl ())))
instance (l:List bL)(jF:ByteArray):bm (iR l jF):=⟨fun s0=>(.sl (l.map cK)::vs jF::(U 3 (vi s0::(U 31 [])))),fun s0=>[]⟩
def nH(l:List bL)(jF:ByteArray):Option Int:=
 (jE l).bind fun y1=>
 cond (!y1)
 (some (-1))
 ((cM jF).bind fun y2=>
 cond (!y2)
 (some (-1))
 ((aD (iR l jF) NN 0).bind (bl (fun o0=>
 some (-1)) (fun r=>some r))))
instance (l:List bL)(jF:ByteArray):CT Tryz.prog (nH l jF):=⟨290,[.sl (l.map cK),vs jF],[],fun r=>vi r,fun r=>[],fun H=>by replace H:=H0 H;unfold nH at H;exact aA Tryz.func290 rfl Tryz.ntmps290 Tryz.results290 fun Q hQ cR=>dU⟩
def lf(cq:List Int):Option Int:=
 (gV cq).bind fun y1=>
 cond (!y1)
 (some 0)
 ((aC cq 0).bind fun y2=>
 (aC cq 1).bind fun y3=>
 (aC cq 2).bind fun y4=>
 some (aL ((aL (y2*y3))*y4)))
instance (cq:List Int):CT Tryz.prog (lf cq):=⟨321,[.sl (cq.map aG)],[],fun r=>vi r,fun r=>[],fun H=>by replace H:=H0 H;unfold lf at H;exact aA Tryz.func321 rfl Tryz.ntmps321 Tryz.results321 fun Q hQ cR=>dU⟩
def fM(p:a8):Option Int:=
 (iu p).bind fun y1=>
 cond (!y1)
 (some 0)
 ((lf p.cq).bind fun y2=>
 cond (decide (p.ab<(IntKind.i64.wrap (Xk (aL (y2+4999)) 5000))))
 (some (IntKind.i64.wrap (Xk (aL (y2+4999)) 5000)))
 (some p.ab))
instance (p:a8):CT Tryz.prog (fM p):=⟨291,[.ag (bS p)],[],fun r=>vi r,fun r=>[],fun H=>by replace H:=H0 H;unfold fM at H;exact aA Tryz.func291 rfl Tryz.ntmps291 Tryz.results291 fun Q hQ cR=>dU⟩
def gT(ba:List bN)(p:a8)(y4:Int)(s0:Int):Option (Int⊕(Unit⊕(Int×Bool))):=
 cond (decide (s0<(ba.length:Int)))
 ((jn 7 6 (
 (aC ba s0).bind fun y5=>
 cond (decide (y5.iY=y4))
 ((aC ba s0).bind fun y6=>
 cond (decide (y6.ax=p.label.ax))
 ((fM p).bind fun y7=>
 (aC ba s0).bind fun y8=>
 cond (decide (y7≤y8.kI))
 ((aC ba s0).bind fun y9=>
 some (.inr (y9.kJ,true)))
 (some (.inl ())))
 (some (.inl ())))
 (some (.inl ())):Option (Unit⊕(Int×Bool))) (fun z10=>(.un::.sl (ba.map cO)::(U 3 (.be 0 0 0::.un::.un::vi y4::vi s0::(U 59 []))))) (fun z10=>[some ⟨.of 44,7,[[vi p.label.ax,vi p.label.fz,vs p.label.aV,vs p.ar,vi p.ab,.sl (p.cq.map aG),vi p.value]]⟩])).bind (bl (fun z10=>
 some (.inl (aL (s0+1)))) (fun r=>some (.inr (.inr r)))))
 (some (.inr (.inl ())))
instance (ba:List bN)(p:a8)(y4:Int):bm (gT ba p y4):=⟨fun s0=>(.un::.sl (ba.map cO)::(U 3 (.be 0 0 0::.un::.un::vi y4::vi s0::(U 59 [])))),fun s0=>[some ⟨.of 44,7,[[vi p.label.ax,vi p.label.fz,vs p.label.aV,vs p.ar,vi p.ab,.sl (p.cq.map aG),vi p.value]]⟩]⟩
def gS(aY:List bL)(ba:List bN)(p:a8):Option (Int×Bool):=
 (jE aY).bind fun y1=>
 cond (!y1)
 (some (0,false))
 ((kY ba (aY.length:Int)).bind fun y2=>
 cond (!y2)
 (some (0,false))
 ((iu p).bind fun y3=>
 cond (!y3)
 (some (0,false))
 ((nH aY p.label.aV).bind fun y4=>
 (aD (gT ba p y4) NN 0).bind (bl (fun o0=>
 some (0,false)) (fun r=>some r)))))
instance (aY:List bL)(ba:List bN)(p:a8):CT Tryz.prog (gS aY ba p):=⟨229,[.sl (aY.map cK),.sl (ba.map cO),.ag (bS p)],[],fun r=>.tu [vi r.1,vb r.2],fun r=>[],fun H=>by replace H:=H0 H;unfold gS at H;exact aA Tryz.func229 rfl Tryz.ntmps229 Tryz.results229 fun Q hQ cR=>dU⟩
def tY(l:List Int)(n:Int)(s0:Int):Option (Int⊕(Unit⊕Bool)):=
 cond (decide (s0<(l.length:Int)))
 ((aC l s0).bind fun y1=>
 cond (decide (y1=n))
 (some (.inr (.inr true)))
 (some (.inl (aL (s0+1)))))
 (some (.inr (.inl ())))
instance (l:List Int)(n:Int):bm (tY l n):=⟨fun s0=>(.un::vi n::(U 5 (.sl (l.map aG)::vi (l.length:Int)::vi s0::(U 7 [])))),fun s0=>[]⟩
def ra(l:List Int)(n:Int):Option Bool:=
 (aD (tY l n) NN 0).bind (bl (fun o0=>
 some false) (fun r=>some r))
instance (l:List Int)(n:Int):CT Tryz.prog (ra l n):=⟨278,[.sl (l.map aG),vi n],[],fun r=>vb r,fun r=>[],fun H=>by replace H:=H0 H;unfold ra at H;exact aA Tryz.func278 rfl Tryz.ntmps278 Tryz.results278 fun Q hQ cR=>dU⟩
def fq(w:av)(s:br):Option av:=
 (ra w.skip (if 1000000000<(aL (w.bd+1))then 1000000000 else(aL (w.bd+1)))).bind fun y1=>
 cond (!y1)
 (cond (decide ((w.aH.length:Int)<200))
 ((cL (bo ((w.aH:List br).length+([s]:List br).length) 56)).bind fun _=>
 some (⟨w.aa,w.ah,w.aq,w.ae,w.now,((w.aH:List br)++[s]),w.skip,(if 1000000000<(aL (w.bd+1))then 1000000000 else(aL (w.bd+1)))⟩:av))
 (some (⟨w.aa,w.ah,w.aq,w.ae,w.now,w.aH,w.skip,(if 1000000000<(aL (w.bd+1))then 1000000000 else(aL (w.bd+1)))⟩:av)))
 (some (⟨w.aa,w.ah,w.aq,w.ae,w.now,w.aH,w.skip,(if 1000000000<(aL (w.bd+1))then 1000000000 else(aL (w.bd+1)))⟩:av))
instance (w:av)(s:br):CT Tryz.prog (fq w s):=⟨204,[.be 0 0 0,.ag (bt s)],[some ⟨.of 33,10,[[.ms 1,.ms 2,vi w.aa.change,.ms 3,.ms 4,.ms 5,vi w.now,.ms 6,.ms 7,vi w.bd]]⟩,some ⟨.of 174,6,w.aa.ay.map bp⟩,some ⟨.of 3,1,w.aa.off.map aG⟩,some ⟨.of 155,11,w.ah.map bc⟩,some ⟨.of 177,4,w.aq.map aB⟩,some ⟨.of 46,2,w.ae.map aS⟩,some ⟨.of 181,6,w.aH.map bt⟩,some ⟨.of 3,1,w.skip.map aG⟩],fun r=>.tu [],fun r=>[some ⟨.of 33,10,[[.ms 1,.ms 2,vi r.aa.change,.ms 3,.ms 4,.ms 5,vi r.now,.ms 8,.ms 7,vi r.bd]]⟩,some ⟨.of 174,6,r.aa.ay.map bp⟩,some ⟨.of 3,1,r.aa.off.map aG⟩,some ⟨.of 155,11,r.ah.map bc⟩,some ⟨.of 177,4,r.aq.map aB⟩,some ⟨.of 46,2,r.ae.map aS⟩,none,some ⟨.of 3,1,r.skip.map aG⟩,some ⟨.of 181,6,r.aH.map bt⟩],fun H=>by replace H:=H0 H;unfold fq at H;exact aA Tryz.func204 rfl Tryz.ntmps204 Tryz.results204 fun Q hQ cR=>dU⟩
def fS(w:av)(s:br):Option av:=
 cond (decide (w.bd<1000000000))
 ((lR w.skip (aL (w.bd+1))).bind fun y1=>
 cond (!y1)
 (cond (decide ((w.aH.length:Int)<200))
 ((cL (bo ((w.aH:List br).length+([s]:List br).length) 56)).bind fun _=>
 some (⟨w.aa,w.ah,w.aq,w.ae,w.now,((w.aH:List br)++[s]),w.skip,(aL (w.bd+1))⟩:av))
 (some (⟨w.aa,w.ah,w.aq,w.ae,w.now,w.aH,w.skip,(aL (w.bd+1))⟩:av)))
 (some (⟨w.aa,w.ah,w.aq,w.ae,w.now,w.aH,w.skip,(aL (w.bd+1))⟩:av)))
 ((lR w.skip w.bd).bind fun y2=>
 cond (!y2)
 (cond (decide ((w.aH.length:Int)<200))
 ((cL (bo ((w.aH:List br).length+([s]:List br).length) 56)).bind fun _=>
 some (⟨w.aa,w.ah,w.aq,w.ae,w.now,((w.aH:List br)++[s]),w.skip,w.bd⟩:av))
 (some w))
 (some w))
instance (w:av)(s:br):CT Tryz.prog (fS w s):=⟨296,[.be 0 0 0,.ag (bt s)],[some ⟨.of 33,10,[[.ms 1,.ms 2,vi w.aa.change,.ms 3,.ms 4,.ms 5,vi w.now,.ms 6,.ms 7,vi w.bd]]⟩,some ⟨.of 174,6,w.aa.ay.map bp⟩,some ⟨.of 3,1,w.aa.off.map aG⟩,some ⟨.of 155,11,w.ah.map bc⟩,some ⟨.of 177,4,w.aq.map aB⟩,some ⟨.of 46,2,w.ae.map aS⟩,some ⟨.of 181,6,w.aH.map bt⟩,some ⟨.of 3,1,w.skip.map aG⟩],fun r=>.tu [],fun r=>[some ⟨.of 33,10,[[.ms 1,.ms 2,vi r.aa.change,.ms 3,.ms 4,.ms 5,vi r.now,.ms 8,.ms 7,vi r.bd]]⟩,some ⟨.of 174,6,r.aa.ay.map bp⟩,some ⟨.of 3,1,r.aa.off.map aG⟩,some ⟨.of 155,11,r.ah.map bc⟩,some ⟨.of 177,4,r.aq.map aB⟩,some ⟨.of 46,2,r.ae.map aS⟩,none,some ⟨.of 3,1,r.skip.map aG⟩,some ⟨.of 181,6,r.aH.map bt⟩],fun H=>by replace H:=H0 H;unfold fS at H;exact aA Tryz.func296 rfl Tryz.ntmps296 Tryz.results296 fun Q hQ cR=>dU⟩
def jm(n:aj):Option aj:=
 (cL (bo ((([]:List bM):List bM).length+(n.ay:List bM).length) 64)).bind fun _=>
 (cL (bo ((([]:List Int):List Int).length+(n.off:List Int).length) 8)).bind fun _=>
 some (⟨((([]:List bM):List bM)++n.ay),((([]:List Int):List Int)++n.off),n.change⟩:aj)
instance (n:aj):CT Tryz.prog (jm n):=⟨183,[.ag (bA n)],[],fun r=>.ag [.ms 0,.ms 1,vi r.change],fun r=>[some ⟨.of 174,6,r.ay.map bp⟩,some ⟨.of 3,1,r.off.map aG⟩],fun H=>by replace H:=H0 H;unfold jm at H;exact aA Tryz.func183 rfl Tryz.ntmps183 Tryz.results183 fun Q hQ cR=>dU⟩
def fL(l:List ao):Option (List ao):=
 (cL (bo ((([]:List ao):List ao).length+(l:List ao).length) 32)).bind fun _=>
 some ((([]:List ao):List ao)++l)
instance (l:List ao):CT Tryz.prog (fL l):=⟨184,[.sl (l.map aB)],[],fun r=>.ms 0,fun r=>[some ⟨.of 177,4,r.map aB⟩],fun H=>by replace H:=H0 H;unfold fL at H;exact aA Tryz.func184 rfl Tryz.ntmps184 Tryz.results184 fun Q hQ cR=>dU⟩
def eW(l:List au):Option (List au):=
 (cL (bo ((([]:List au):List au).length+(l:List au).length) 16)).bind fun _=>
 some ((([]:List au):List au)++l)
instance (l:List au):CT Tryz.prog (eW l):=⟨185,[.sl (l.map aS)],[],fun r=>.ms 0,fun r=>[some ⟨.of 46,2,r.map aS⟩],fun H=>by replace H:=H0 H;unfold eW at H;exact aA Tryz.func185 rfl Tryz.ntmps185 Tryz.results185 fun Q hQ cR=>dU⟩
def fU(w:av)(y1:aj)(y2:(List ao))(y3:(List au))(s0:Int×(List az)):Option ((Int×(List az))⊕(List az)):=
 cond (decide (s0.1<(w.ah.length:Int)))
 ((aC w.ah s0.1).bind fun y4=>
 (eW y4.aE).bind fun y5=>
 (A8 (.un::.un::.be 0 0 0::.be 1 0 0::.un::.be 9 0 0::(U 23 (.sl (w.ah.map bc)::vi (w.ah.length:Int)::vi s0.1::(U 15 [])))) [some ⟨.of 33,10,[[.v (.slice none 0 0),.v (.slice none 0 0),vi 0,.v (.slice none 0 0),.v (.slice none 0 0),.v (.slice none 0 0),vi 0,.v (.slice none 0 0),.v (.slice none 0 0),vi 0]]⟩,some ⟨.of 33,10,[[.ms 2,.ms 3,vi y1.change,.ms 4,.ms 5,.ms 6,vi w.now,.ms 7,.ms 8,vi w.bd]]⟩,some ⟨.of 174,6,y1.ay.map bp⟩,some ⟨.of 3,1,y1.off.map aG⟩,some ⟨.of 155,11,s0.2.map bc⟩,some ⟨.of 177,4,y2.map aB⟩,some ⟨.of 46,2,y3.map aS⟩,some ⟨.of 181,6,((([]:List br):List br)++w.aH).map bt⟩,some ⟨.of 3,1,((([]:List Int):List Int)++w.skip).map aG⟩,some ⟨.of 155,11,[[vs y4.ar,vs y4.aV,vi y4.ax,vi y4.ab,vi y4.aO,vi y4.dX,.sl (y5.map aS),vi y4.aJ,vi y4.state,vs y4.place,vi y4.bD]]⟩]).bind fun _=>
 (cL (bo ((s0.2:List az).length+([(⟨y4.ar,y4.aV,y4.ax,y4.ab,y4.aO,y4.dX,y5,y4.aJ,y4.state,y4.place,y4.bD⟩:az)]:List az).length) 128)).bind fun _=>
 some (.inl ((aL (s0.1+1)),((s0.2:List az)++[(⟨y4.ar,y4.aV,y4.ax,y4.ab,y4.aO,y4.dX,y5,y4.aJ,y4.state,y4.place,y4.bD⟩:az)]))))
 (some (.inr s0.2))
instance (w:av)(y1:aj)(y2:(List ao))(y3:(List au)):bm (fU w y1 y2 y3):=⟨fun s0=>(.un::.un::.be 0 0 0::.be 1 0 0::(U 25 (.sl (w.ah.map bc)::vi (w.ah.length:Int)::vi s0.1::(U 15 [])))),fun s0=>[some ⟨.of 33,10,[[.v (.slice none 0 0),.v (.slice none 0 0),vi 0,.v (.slice none 0 0),.v (.slice none 0 0),.v (.slice none 0 0),vi 0,.v (.slice none 0 0),.v (.slice none 0 0),vi 0]]⟩,some ⟨.of 33,10,[[.ms 2,.ms 3,vi y1.change,.ms 4,.ms 5,.ms 6,vi w.now,.ms 7,.ms 8,vi w.bd]]⟩,some ⟨.of 174,6,y1.ay.map bp⟩,some ⟨.of 3,1,y1.off.map aG⟩,some ⟨.of 155,11,s0.2.map bc⟩,some ⟨.of 177,4,y2.map aB⟩,some ⟨.of 46,2,y3.map aS⟩,some ⟨.of 181,6,((([]:List br):List br)++w.aH).map bt⟩,some ⟨.of 3,1,((([]:List Int):List Int)++w.skip).map aG⟩]⟩
def dP(w:av):Option av:=
 (jm w.aa).bind fun y1=>
 (fL w.aq).bind fun y2=>
 (eW w.ae).bind fun y3=>
 (cL (bo ((([]:List br):List br).length+(w.aH:List br).length) 56)).bind fun _=>
 (cL (bo ((([]:List Int):List Int).length+(w.skip:List Int).length) 8)).bind fun _=>
 (aD (fU w y1 y2 y3) NN (0,[])).bind (fun o0=>
 some (⟨y1,o0,y2,y3,w.now,((([]:List br):List br)++w.aH),((([]:List Int):List Int)++w.skip),w.bd⟩:av))
instance (w:av):CT Tryz.prog (dP w):=⟨94,[.ag (fK w)],[],fun r=>.ag [.ms 0,.ms 1,vi r.aa.change,.ms 2,.ms 3,.ms 4,vi r.now,.ms 5,.ms 6,vi r.bd],fun r=>[some ⟨.of 174,6,r.aa.ay.map bp⟩,some ⟨.of 3,1,r.aa.off.map aG⟩,some ⟨.of 155,11,r.ah.map bc⟩,some ⟨.of 177,4,r.aq.map aB⟩,some ⟨.of 46,2,r.ae.map aS⟩,some ⟨.of 181,6,r.aH.map bt⟩,some ⟨.of 3,1,r.skip.map aG⟩],fun H=>by replace H:=H0 H;unfold dP at H;exact aA Tryz.func94 rfl Tryz.ntmps94 Tryz.results94 fun Q hQ cR=>dU⟩
def bG(l:List aW):Option (List aW):=
 (cL (bo ((([]:List aW):List aW).length+(l:List aW).length) 32)).bind fun _=>
 some ((([]:List aW):List aW)++l)
instance (l:List aW):CT Tryz.prog (bG l):=⟨95,[.sl (l.map bO)],[],fun r=>.ms 0,fun r=>[some ⟨.of 111,4,r.map bO⟩],fun H=>by replace H:=H0 H;unfold bG at H;exact aA Tryz.func95 rfl Tryz.ntmps95 Tryz.results95 fun Q hQ cR=>dU⟩
def jW(x:aW):Option Bool:=
 (aZ x.order 1 9999).bind fun y1=>
 cond y1
 ((aZ x.kind 1 3).bind fun y2=>
 cond y2
 ((aZ x.bz 1 100000).bind fun y3=>
 cond y3
 ((aZ x.aO 0 100000).bind fun y4=>
 some y4)
 (some false))
 (some false))
 (some false)
instance (x:aW):CT Tryz.prog (jW x):=⟨195,[.ag (bO x)],[],fun r=>vb r,fun r=>[],fun H=>by replace H:=H0 H;unfold jW at H;exact aA Tryz.func195 rfl Tryz.ntmps195 Tryz.results195 fun Q hQ cR=>dU⟩
def pF(l:List aW)(order:Int)(kind:Int)(s0:Int×Int):Option ((Int×Int)⊕Int):=
 cond (decide (s0.2<(l.length:Int)))
 ((jn 4 7 (
 (aC l s0.2).bind fun y1=>
 cond (decide (y1.order=order))
 (cond (decide (y1.kind=kind))
 (some (.inl (aL (s0.1+y1.bz))))
 (some (.inl s0.1)))
 (some (.inl s0.1)):Option (Int⊕Empty)) (fun z2=>(.un::vi order::vi kind::(U 4 (vi z2::.un::.un::.sl (l.map bO)::vi (l.length:Int)::vi s0.2::(U 19 []))))) (fun z2=>[])).bind (bl (fun z2=>
 some (.inl (z2,(aL (s0.2+1))))) (fun r=>nomatch r)))
 (some (.inr s0.1))
instance (l:List aW)(order:Int)(kind:Int):bm (pF l order kind):=⟨fun s0=>(.un::vi order::vi kind::(U 4 (vi s0.1::.un::.un::.sl (l.map bO)::vi (l.length:Int)::vi s0.2::(U 19 [])))),fun s0=>[]⟩
def dY(l:List aW)(order:Int)(kind:Int):Option Int:=
 (aD (pF l order kind) NN (0,0)).bind (fun o0=>
 some o0)
theorem Eg(l:List aW)(order:Int)(kind:Int){r:Int}(H:dY l order kind=some r):iZ Tryz.prog 103 [.sl (l.map bO),vi order,vi kind] [] (vi r) []:=by
 replace H:=H0 H
 unfold dY at H
 refine aA Tryz.func103 rfl Tryz.ntmps103 Tryz.results103 fun Q hQ cR=>?_
 exact dU
instance (l:List aW)(order:Int)(kind:Int):CT Tryz.prog (dY l order kind):=⟨103,[.sl (l.map bO),vi order,vi kind],[],fun r=>vi r,fun r=>[],Eg l order kind⟩
def gf(l:List aW)(s0:Int):Option (Int⊕(Unit⊕Bool)):=
 cond (decide (s0<(l.length:Int)))
 ((jn 5 20 (
 (aC l s0).bind fun y1=>
 (jn 6 8 (
 (jW y1).bind fun y2=>
 cond (!y2)
 (some (.inr false))
 (cond (decide (0<s0))
 ((aC l (aL (s0-1))).bind fun y3=>
 cond (decide (y1.aO<y3.aO))
 (some (.inr false))
 (some (.inl ())))
 (some (.inl ()))):Option (Unit⊕Bool)) (fun z4=>(.sl (l.map bO)::.un::.un::vi s0::.be 0 0 0::(U 5 (.sl (l.map bO)::vi (l.length:Int)::vi s0::(U 69 []))))) (fun z4=>[some ⟨.of 111,4,[[vi y1.order,vi y1.kind,vi y1.bz,vi y1.aO]]⟩])).bind (bl (fun z4=>
 (cL (gA 0 s0 l.length)).bind fun _=>
 (dY (cD l 0 s0) y1.order 1).bind fun y5=>
 (cL (gA 0 s0 l.length)).bind fun _=>
 (dY (cD l 0 s0) y1.order 2).bind fun y6=>
 cond (decide (y1.kind=1))
 (cond (decide (0<y5))
 (some (.inr false))
 (some (.inl ())))
 (cond (decide (y1.kind=2))
 (cond (decide (y5<(aL (y6+y1.bz))))
 (some (.inr false))
 (some (.inl ())))
 (cond (decide (y1.kind=3))
 ((cL (gA 0 s0 l.length)).bind fun _=>
 (dY (cD l 0 s0) y1.order 3).bind fun y7=>
 cond (decide (0<y7))
 (some (.inr false))
 (cond (!decide (y6=y5))
 (some (.inr false))
 (cond (decide (y5<y1.bz))
 (some (.inr false))
 (some (.inl ())))))
 (some (.inl ()))))) (fun r=>some (.inr r))):Option (Unit⊕Bool)) (fun z8=>(.sl (l.map bO)::(U 9 (.sl (l.map bO)::vi (l.length:Int)::vi s0::(U 69 []))))) (fun z8=>[])).bind (bl (fun z8=>
 some (.inl (aL (s0+1)))) (fun r=>some (.inr (.inr r)))))
 (some (.inr (.inl ())))
instance (l:List aW):bm (gf l):=⟨fun s0=>(.sl (l.map bO)::(U 9 (.sl (l.map bO)::vi (l.length:Int)::vi s0::(U 69 [])))),fun s0=>[]⟩
def ee(l:List aW):Option Bool:=
 cond (decide (200<(l.length:Int)))
 (some false)
 ((aD (gf l) NN 0).bind (bl (fun o0=>
 some true) (fun r=>some r)))
theorem zR(l:List aW)(H:ee l=some r):iZ Tryz.prog 101 [.sl (l.map bO)] [] (vb r) []:=by
 replace H:=H0 H
 unfold ee at H
 refine aA Tryz.func101 rfl Tryz.ntmps101 Tryz.results101 fun Q hQ cR=>?_
 exact dU
instance (l:List aW):CT Tryz.prog (ee l):=⟨101,[.sl (l.map bO)],[],fun r=>vb r,fun r=>[],zR l⟩
def kn(l:List aW)(x:aW):Option ((List aW)×Int):=
 cond (decide (200≤(l.length:Int)))
 ((bG l).bind fun y1=>
 some (y1,5))
 ((bG l).bind fun y2=>
 (cL (bo ((y2:List aW).length+([x]:List aW).length) 32)).bind fun _=>
 (ee ((y2:List aW)++[x])).bind fun y3=>
 cond (!y3)
 ((bG l).bind fun y4=>
 some (y4,1))
 (some (((y2:List aW)++[x]),0)))
instance (l:List aW)(x:aW):CT Tryz.prog (kn l x):=⟨205,[.sl (l.map bO),.ag (bO x)],[],fun r=>.tu [.ms 0,vi r.2],fun r=>[some ⟨.of 111,4,r.1.map bO⟩],fun H=>by replace H:=H0 H;unfold kn at H;exact aA Tryz.func205 rfl Tryz.ntmps205 Tryz.results205 fun Q hQ cR=>dU⟩
def kh(l:List aW)(order:Int)(bz:Int)(fJ:Int):Option ((List aW)×Int):=
 (ee l).bind fun y1=>
 cond (!y1)
 ((bG l).bind fun y2=>
 some (y2,1))
 ((jW (⟨order,1,bz,fJ⟩:aW)).bind fun y3=>
 cond (!y3)
 ((bG l).bind fun y4=>
 some (y4,1))
 ((dY l order 1).bind fun y5=>
 cond (decide (0<y5))
 ((bG l).bind fun y6=>
 some (y6,2))
 ((kn l (⟨order,1,bz,fJ⟩:aW)).bind fun y7=>
 some (y7.1,y7.2))))
instance (l:List aW)(order:Int)(bz:Int)(fJ:Int):CT Tryz.prog (kh l order bz fJ):=⟨107,[.sl (l.map bO),vi order,vi bz,vi fJ],[],fun r=>.tu [.ms 0,vi r.2],fun r=>[some ⟨.of 111,4,r.1.map bO⟩],fun H=>by replace H:=H0 H;unfold kh at H;exact aA Tryz.func107 rfl Tryz.ntmps107 Tryz.results107 fun Q hQ cR=>dU⟩
def ml(l:List aW)(order:Int):Option Int:=
 (ee l).bind fun y1=>
 cond (!y1)
 (some 0)
 ((dY l order 1).bind fun y2=>
 (dY l order 2).bind fun y3=>
 some (aL (y2-y3)))
instance (l:List aW)(order:Int):CT Tryz.prog (ml l order):=⟨206,[.sl (l.map bO),vi order],[],fun r=>vi r,fun r=>[],fun H=>by replace H:=H0 H;unfold ml at H;exact aA Tryz.func206 rfl Tryz.ntmps206 Tryz.results206 fun Q hQ cR=>dU⟩
def nt(l:List aW)(order:Int)(bz:Int)(fJ:Int):Option ((List aW)×Int):=
 (ee l).bind fun y1=>
 cond (!y1)
 ((bG l).bind fun y2=>
 some (y2,1))
 ((jW (⟨order,2,bz,fJ⟩:aW)).bind fun y3=>
 cond (!y3)
 ((bG l).bind fun y4=>
 some (y4,1))
 ((dY l order 1).bind fun y5=>
 cond (decide (y5=0))
 ((bG l).bind fun y6=>
 some (y6,3))
 ((ml l order).bind fun y7=>
 cond (decide (y7<bz))
 ((bG l).bind fun y8=>
 some (y8,4))
 ((kn l (⟨order,2,bz,fJ⟩:aW)).bind fun y9=>
 some (y9.1,y9.2)))))
instance (l:List aW)(order:Int)(bz:Int)(fJ:Int):CT Tryz.prog (nt l order bz fJ):=⟨108,[.sl (l.map bO),vi order,vi bz,vi fJ],[],fun r=>.tu [.ms 0,vi r.2],fun r=>[some ⟨.of 111,4,r.1.map bO⟩],fun H=>by replace H:=H0 H;unfold nt at H;exact aA Tryz.func108 rfl Tryz.ntmps108 Tryz.results108 fun Q hQ cR=>dU⟩
def kD(l:List Int)(s0:Int):Option (Int⊕(Unit⊕Bool)):=
 cond (decide (s0<(l.length:Int)))
 ((jn 3 6 (
 (aC l s0).bind fun y1=>
 (aZ y1 0 100).bind fun y2=>
 cond (!y2)
 (some (.inr false))
 (cond (decide (0<s0))
 ((aC l (aL (s0-1))).bind fun y3=>
 cond (decide (y1<y3))
 (some (.inr false))
 (some (.inl ())))
 (some (.inl ()))):Option (Unit⊕Bool)) (fun z4=>(.sl (l.map aG)::(U 4 (.sl (l.map aG)::vi (l.length:Int)::vi s0::(U 24 []))))) (fun z4=>[])).bind (bl (fun z4=>
 some (.inl (aL (s0+1)))) (fun r=>some (.inr (.inr r)))))
 (some (.inr (.inl ())))
instance (l:List Int):bm (kD l):=⟨fun s0=>(.sl (l.map aG)::(U 4 (.sl (l.map aG)::vi (l.length:Int)::vi s0::(U 24 [])))),fun s0=>[]⟩
def eB(l:List Int):Option Bool:=
 (aD (kD l) NN 0).bind (bl (fun o0=>
 (aZ (l.length:Int) 1 6).bind fun y5=>
 some y5) (fun r=>some r))
theorem wW(l:List Int)(H:eB l=some r):iZ Tryz.prog 100 [.sl (l.map aG)] [] (vb r) []:=by
 replace H:=H0 H
 unfold eB at H
 refine aA Tryz.func100 rfl Tryz.ntmps100 Tryz.results100 fun Q hQ cR=>?_
 exact dU
instance (l:List Int):CT Tryz.prog (eB l):=⟨100,[.sl (l.map aG)],[],fun r=>vb r,fun r=>[],wW l⟩
def mo(nX:Int)(dX:Int)(bD:Int)(aN:List Int):Option Int:=
 (eB aN).bind fun y1=>
 cond (!y1)
 (some 0)
 ((aZ nX 0 100000).bind fun y2=>
 cond (!y2)
 (some 0)
 ((aZ dX 0 200000).bind fun y3=>
 cond (!y3)
 (some 0)
 ((aZ bD 0 200000).bind fun y4=>
 cond (!y4)
 (some 0)
 (cond (decide (bD≤dX))
 (some 0)
 ((aC aN (if(aL ((aN.length:Int)-1))<(IntKind.i64.wrap (Xk (aL ((aL (bD-dX))-1)) 1440))then(aL ((aN.length:Int)-1))else(IntKind.i64.wrap (Xk (aL ((aL (bD-dX))-1)) 1440)))).bind fun y5=>
 some (IntKind.i64.wrap (Xk (aL (nX*y5)) 100)))))))
instance (nX:Int)(dX:Int)(bD:Int)(aN:List Int):CT Tryz.prog (mo nX dX bD aN):=⟨207,[vi nX,vi dX,vi bD,.sl (aN.map aG)],[],fun r=>vi r,fun r=>[],fun H=>by replace H:=H0 H;unfold mo at H;exact aA Tryz.func207 rfl Tryz.ntmps207 Tryz.results207 fun Q hQ cR=>dU⟩
def km(l:List aW)(order:Int)(dX:Int)(bD:Int)(aN:List Int)(oY:Int):Option ((List aW)×Int):=
 (ee l).bind fun y1=>
 cond (!y1)
 ((bG l).bind fun y2=>
 some (y2,1))
 ((eB aN).bind fun y3=>
 cond (!y3)
 ((bG l).bind fun y4=>
 some (y4,1))
 ((aZ order 1 9999).bind fun y5=>
 cond (!y5)
 ((bG l).bind fun y6=>
 some (y6,1))
 ((aZ oY 0 100000).bind fun y7=>
 cond (!y7)
 ((bG l).bind fun y8=>
 some (y8,1))
 ((dY l order 1).bind fun y9=>
 (mo y9 dX bD aN).bind fun dM=>
 cond (decide (y9=0))
 ((bG l).bind fun jx=>
 some (jx,3))
 ((ml l order).bind fun oV=>
 cond (decide (0<oV))
 ((bG l).bind fun lZ=>
 some (lZ,3))
 ((dY l order 3).bind fun kS=>
 cond (decide (0<kS))
 ((bG l).bind fun o9=>
 some (o9,2))
 (cond (decide (dM=0))
 ((bG l).bind fun ma=>
 some (ma,4))
 ((kn l (⟨order,3,dM,oY⟩:aW)).bind fun ri=>
 some (ri.1,ri.2)))))))))
instance (l:List aW)(order:Int)(dX:Int)(bD:Int)(aN:List Int)(oY:Int):CT Tryz.prog (km l order dX bD aN oY):=⟨109,[.sl (l.map bO),vi order,vi dX,vi bD,.sl (aN.map aG),vi oY],[],fun r=>.tu [.ms 0,vi r.2],fun r=>[some ⟨.of 111,4,r.1.map bO⟩],fun H=>by replace H:=H0 H;unfold km at H;exact aA Tryz.func109 rfl Tryz.ntmps109 Tryz.results109 fun Q hQ cR=>dU⟩
def ca(l:List aW):Option (List aW):=
 (cL (bo ((([]:List aW):List aW).length+(l:List aW).length) 32)).bind fun _=>
 some ((([]:List aW):List aW)++l)
instance (l:List aW):CT Tryz.prog (ca l):=⟨127,[.sl (l.map bO)],[],fun r=>.ms 0,fun r=>[some ⟨.of 111,4,r.map bO⟩],fun H=>by replace H:=H0 H;unfold ca at H;exact aA Tryz.func127 rfl Tryz.ntmps127 Tryz.results127 fun Q hQ cR=>dU⟩
def lX(x:aW):Option Bool:=
 (bg x.order 1 9999).bind fun y1=>
 cond y1
 ((bg x.kind 1 3).bind fun y2=>
 cond y2
 ((bg x.bz 1 100000).bind fun y3=>
 cond y3
 ((bg x.aO 0 100000).bind fun y4=>
 some y4)
 (some false))
 (some false))
 (some false)
instance (x:aW):CT Tryz.prog (lX x):=⟨226,[.ag (bO x)],[],fun r=>vb r,fun r=>[],fun H=>by replace H:=H0 H;unfold lX at H;exact aA Tryz.func226 rfl Tryz.ntmps226 Tryz.results226 fun Q hQ cR=>dU⟩
def pG(l:List aW)(order:Int)(kind:Int)(s0:Int×Int):Option ((Int×Int)⊕Int):=
 cond (decide (s0.2<(l.length:Int)))
 ((jn 5 4 (
 (aC l s0.2).bind fun y1=>
 cond (decide (y1.order=order))
 ((aC l s0.2).bind fun y2=>
 cond (decide (y2.kind=kind))
 ((aC l s0.2).bind fun y3=>
 some (.inl (aL (s0.1+y3.bz))))
 (some (.inl s0.1)))
 (some (.inl s0.1)):Option (Int⊕Empty)) (fun z4=>(.sl (l.map bO)::vi order::vi kind::(U 4 (vi z4::vi s0.2::(U 30 []))))) (fun z4=>[])).bind (bl (fun z4=>
 some (.inl (z4,(aL (s0.2+1))))) (fun r=>nomatch r)))
 (some (.inr s0.1))
instance (l:List aW)(order:Int)(kind:Int):bm (pG l order kind):=⟨fun s0=>(.sl (l.map bO)::vi order::vi kind::(U 4 (vi s0.1::vi s0.2::(U 30 [])))),fun s0=>[]⟩
def eK(l:List aW)(order:Int)(kind:Int):Option Int:=
 (aD (pG l order kind) NN (0,0)).bind (fun o0=>
 some o0)
theorem Eh(l:List aW)(order:Int)(kind:Int){r:Int}(H:eK l order kind=some r):iZ Tryz.prog 227 [.sl (l.map bO),vi order,vi kind] [] (vi r) []:=by
 replace H:=H0 H
 unfold eK at H
 refine aA Tryz.func227 rfl Tryz.ntmps227 Tryz.results227 fun Q hQ cR=>?_
 exact dU
instance (l:List aW)(order:Int)(kind:Int):CT Tryz.prog (eK l order kind):=⟨227,[.sl (l.map bO),vi order,vi kind],[],fun r=>vi r,fun r=>[],Eh l order kind⟩
def nf(l:List aW)(order:Int)(kind:Int)(s0:Int×Int):Option ((Int×Int)⊕Int):=
 cond (decide (s0.2<(l.length:Int)))
 ((jn 5 4 (
 (aC l s0.2).bind fun y1=>
 cond (decide (y1.order=order))
 ((aC l s0.2).bind fun y2=>
 cond (decide (y2.kind=kind))
 (some (.inl (aL (s0.1+1))))
 (some (.inl s0.1)))
 (some (.inl s0.1)):Option (Int⊕Empty)) (fun z3=>(.sl (l.map bO)::vi order::vi kind::(U 4 (vi z3::vi s0.2::(U 25 []))))) (fun z3=>[])).bind (bl (fun z3=>
 some (.inl (z3,(aL (s0.2+1))))) (fun r=>nomatch r)))
 (some (.inr s0.1))
instance (l:List aW)(order:Int)(kind:Int):bm (nf l order kind):=⟨fun s0=>(.sl (l.map bO)::vi order::vi kind::(U 4 (vi s0.1::vi s0.2::(U 25 [])))),fun s0=>[]⟩
def lh(l:List aW)(order:Int)(kind:Int):Option Int:=
 (aD (nf l order kind) NN (0,0)).bind (fun o0=>
 some o0)
instance (l:List aW)(order:Int)(kind:Int):CT Tryz.prog (lh l order kind):=⟨228,[.sl (l.map bO),vi order,vi kind],[],fun r=>vi r,fun r=>[],fun H=>by replace H:=H0 H;unfold lh at H;exact aA Tryz.func228 rfl Tryz.ntmps228 Tryz.results228 fun Q hQ cR=>dU⟩
def gl(l:List aW)(s0:Int):Option (Int⊕(Unit⊕Bool)):=
 cond (decide (s0<(l.length:Int)))
 ((jn 6 5 (
 (aC l s0).bind fun y1=>
 (jn 7 9 (
 (lX y1).bind fun y2=>
 cond (!y2)
 (some (.inr false))
 (cond (decide (0<s0))
 ((aC l (aL (s0-1))).bind fun y3=>
 cond (decide (y1.aO<y3.aO))
 (some (.inr false))
 (some (.inl ())))
 (some (.inl ()))):Option (Unit⊕Bool)) (fun z4=>(.sl (l.map bO)::.un::.un::vi s0::.be 0 0 0::(U 76 []))) (fun z4=>[some ⟨.of 111,4,[[vi y1.order,vi y1.kind,vi y1.bz,vi y1.aO]]⟩])).bind (bl (fun z4=>
 (cL (gA 0 s0 l.length)).bind fun _=>
 (eK (cD l 0 s0) y1.order 1).bind fun y5=>
 cond (decide (y1.kind=1))
 (cond (decide (0<y5))
 (some (.inr false))
 (some (.inl ())))
 (cond (decide (y1.kind=2))
 ((eK (cD l 0 s0) y1.order 2).bind fun y6=>
 cond (decide (y5<(aL (y6+y1.bz))))
 (some (.inr false))
 (some (.inl ())))
 ((lh (cD l 0 s0) y1.order 3).bind fun y7=>
 cond (decide (0<y7))
 (some (.inr false))
 (cond (decide (y5<y1.bz))
 (some (.inr false))
 ((eK (cD l 0 s0) y1.order 2).bind fun y8=>
 cond (!decide (y8=y5))
 (some (.inr false))
 (some (.inl ()))))))) (fun r=>some (.inr r))):Option (Unit⊕Bool)) (fun z9=>(.sl (l.map bO)::.un::.un::vi s0::(U 77 []))) (fun z9=>[])).bind (bl (fun z9=>
 some (.inl (aL (s0+1)))) (fun r=>some (.inr (.inr r)))))
 (some (.inr (.inl ())))
instance (l:List aW):bm (gl l):=⟨fun s0=>(.sl (l.map bO)::.un::.un::vi s0::(U 77 [])),fun s0=>[]⟩
def eh(l:List aW):Option Bool:=
 cond (decide (200<(l.length:Int)))
 (some false)
 ((aD (gl l) NN 0).bind (bl (fun o0=>
 some true) (fun r=>some r)))
theorem zT(l:List aW)(H:eh l=some r):iZ Tryz.prog 132 [.sl (l.map bO)] [] (vb r) []:=by
 replace H:=H0 H
 unfold eh at H
 refine aA Tryz.func132 rfl Tryz.ntmps132 Tryz.results132 fun Q hQ cR=>?_
 exact dU
instance (l:List aW):CT Tryz.prog (eh l):=⟨132,[.sl (l.map bO)],[],fun r=>vb r,fun r=>[],zT l⟩
def ky(l:List aW)(x:aW):Option ((List aW)×Int):=
 (ca l).bind fun y1=>
 (cL (bo ((y1:List aW).length+([x]:List aW).length) 32)).bind fun _=>
 cond (decide (200≤(l.length:Int)))
 ((ca l).bind fun y2=>
 some (y2,5))
 ((eh ((y1:List aW)++[x])).bind fun y3=>
 cond (!y3)
 ((ca l).bind fun y4=>
 some (y4,1))
 (some (((y1:List aW)++[x]),0)))
instance (l:List aW)(x:aW):CT Tryz.prog (ky l x):=⟨297,[.sl (l.map bO),.ag (bO x)],[],fun r=>.tu [.ms 0,vi r.2],fun r=>[some ⟨.of 111,4,r.1.map bO⟩],fun H=>by replace H:=H0 H;unfold ky at H;exact aA Tryz.func297 rfl Tryz.ntmps297 Tryz.results297 fun Q hQ cR=>dU⟩
def fr(l:List aW)(order:Int)(bz:Int)(fJ:Int):Option ((List aW)×Int):=
 (eh l).bind fun y1=>
 cond (!y1)
 ((ca l).bind fun y2=>
 some (y2,1))
 ((lX (⟨order,1,bz,fJ⟩:aW)).bind fun y3=>
 cond (!y3)
 ((ca l).bind fun y4=>
 some (y4,1))
 ((eK l order 1).bind fun y5=>
 cond (decide (0<y5))
 ((ca l).bind fun y6=>
 some (y6,2))
 ((ky l (⟨order,1,bz,fJ⟩:aW)).bind fun y7=>
 some (y7.1,y7.2))))
instance (l:List aW)(order:Int)(bz:Int)(fJ:Int):CT Tryz.prog (fr l order bz fJ):=⟨234,[.sl (l.map bO),vi order,vi bz,vi fJ],[],fun r=>.tu [.ms 0,vi r.2],fun r=>[some ⟨.of 111,4,r.1.map bO⟩],fun H=>by replace H:=H0 H;unfold fr at H;exact aA Tryz.func234 rfl Tryz.ntmps234 Tryz.results234 fun Q hQ cR=>dU⟩
def er(l:List aW)(order:Int):Option Int:=
 (eh l).bind fun y1=>
 cond (!y1)
 (some 0)
 ((eK l order 1).bind fun y2=>
 (eK l order 2).bind fun y3=>
 some (aL (y2-y3)))
instance (l:List aW)(order:Int):CT Tryz.prog (er l order):=⟨182,[.sl (l.map bO),vi order],[],fun r=>vi r,fun r=>[],fun H=>by replace H:=H0 H;unfold er at H;exact aA Tryz.func182 rfl Tryz.ntmps182 Tryz.results182 fun Q hQ cR=>dU⟩
def eP(l:List aW)(order:Int)(bz:Int)(fJ:Int):Option ((List aW)×Int):=
 (eh l).bind fun y1=>
 cond (!y1)
 ((ca l).bind fun y2=>
 some (y2,1))
 ((lX (⟨order,2,bz,fJ⟩:aW)).bind fun y3=>
 cond (!y3)
 ((ca l).bind fun y4=>
 some (y4,1))
 ((eK l order 1).bind fun y5=>
 cond (decide (y5=0))
 ((ca l).bind fun y6=>
 some (y6,3))
 ((er l order).bind fun y7=>
 cond (decide (y7<bz))
 ((ca l).bind fun y8=>
 some (y8,4))
 ((ky l (⟨order,2,bz,fJ⟩:aW)).bind fun y9=>
 some (y9.1,y9.2)))))
instance (l:List aW)(order:Int)(bz:Int)(fJ:Int):CT Tryz.prog (eP l order bz fJ):=⟨235,[.sl (l.map bO),vi order,vi bz,vi fJ],[],fun r=>.tu [.ms 0,vi r.2],fun r=>[some ⟨.of 111,4,r.1.map bO⟩],fun H=>by replace H:=H0 H;unfold eP at H;exact aA Tryz.func235 rfl Tryz.ntmps235 Tryz.results235 fun Q hQ cR=>dU⟩
def kF(l:List Int)(s0:Int):Option (Int⊕(Unit⊕Bool)):=
 cond (decide (s0<(l.length:Int)))
 ((jn 4 3 (
 (aC l s0).bind fun y1=>
 (bg y1 0 100).bind fun y2=>
 cond (!y2)
 (some (.inr false))
 (cond (decide (0<s0))
 ((aC l (aL (s0-1))).bind fun y3=>
 (aC l s0).bind fun y4=>
 cond (decide (y4<y3))
 (some (.inr false))
 (some (.inl ())))
 (some (.inl ()))):Option (Unit⊕Bool)) (fun z5=>(.sl (l.map aG)::.un::.un::vi s0::(U 31 []))) (fun z5=>[])).bind (bl (fun z5=>
 some (.inl (aL (s0+1)))) (fun r=>some (.inr (.inr r)))))
 (some (.inr (.inl ())))
instance (l:List Int):bm (kF l):=⟨fun s0=>(.sl (l.map aG)::.un::.un::vi s0::(U 31 [])),fun s0=>[]⟩
def eI(l:List Int):Option Bool:=
 (aD (kF l) NN 0).bind (bl (fun o0=>
 (bg (l.length:Int) 1 6).bind fun y6=>
 some y6) (fun r=>some r))
theorem wX(l:List Int)(H:eI l=some r):iZ Tryz.prog 131 [.sl (l.map aG)] [] (vb r) []:=by
 replace H:=H0 H
 unfold eI at H
 refine aA Tryz.func131 rfl Tryz.ntmps131 Tryz.results131 fun Q hQ cR=>?_
 exact dU
instance (l:List Int):CT Tryz.prog (eI l):=⟨131,[.sl (l.map aG)],[],fun r=>vb r,fun r=>[],wX l⟩
def j9(nX:Int)(dX:Int)(bD:Int)(aN:List Int):Option Int:=
 (eI aN).bind fun y1=>
 cond (!y1)
 (some 0)
 ((bg nX 0 100000).bind fun y2=>
 cond (!y2)
 (some 0)
 ((bg dX 0 200000).bind fun y3=>
 cond (!y3)
 (some 0)
 ((bg bD 0 200000).bind fun y4=>
 cond (!y4)
 (some 0)
 (cond (decide (bD≤dX))
 (some 0)
 ((jn 4 6 (
 cond (decide ((aN.length:Int)≤(IntKind.i64.wrap (Xk (aL ((aL (bD-dX))-1)) 1440))))
 (some (.inl (aL ((aN.length:Int)-1))))
 (some (.inl (IntKind.i64.wrap (Xk (aL ((aL (bD-dX))-1)) 1440)))):Option (Int⊕Empty)) (fun z5=>(vi nX::.un::.un::.sl (aN.map aG)::(U 5 (vi z5::(U 42 []))))) (fun z5=>[])).bind (bl (fun z5=>
 (aC aN z5).bind fun y6=>
 some (IntKind.i64.wrap (Xk (aL (nX*y6)) 100))) (fun r=>nomatch r)))))))
instance (nX:Int)(dX:Int)(bD:Int)(aN:List Int):CT Tryz.prog (j9 nX dX bD aN):=⟨298,[vi nX,vi dX,vi bD,.sl (aN.map aG)],[],fun r=>vi r,fun r=>[],fun H=>by replace H:=H0 H;unfold j9 at H;exact aA Tryz.func298 rfl Tryz.ntmps298 Tryz.results298 fun Q hQ cR=>dU⟩
def fw(l:List aW)(order:Int)(dX:Int)(bD:Int)(aN:List Int)(oY:Int):Option ((List aW)×Int):=
 (eK l order 1).bind fun y1=>
 (eh l).bind fun y2=>
 cond (!y2)
 ((ca l).bind fun y3=>
 some (y3,1))
 ((eI aN).bind fun y4=>
 cond (!y4)
 ((ca l).bind fun y5=>
 some (y5,1))
 ((bg order 1 9999).bind fun y6=>
 cond (!y6)
 ((ca l).bind fun y7=>
 some (y7,1))
 ((bg oY 0 100000).bind fun y8=>
 cond (!y8)
 ((ca l).bind fun y9=>
 some (y9,1))
 (cond (decide (y1=0))
 ((ca l).bind fun dM=>
 some (dM,3))
 ((er l order).bind fun jx=>
 cond (decide (0<jx))
 ((ca l).bind fun oV=>
 some (oV,3))
 ((lh l order 3).bind fun lZ=>
 cond (decide (0<lZ))
 ((ca l).bind fun kS=>
 some (kS,2))
 ((j9 y1 dX bD aN).bind fun o9=>
 cond (decide (o9=0))
 ((ca l).bind fun ma=>
 some (ma,4))
 ((j9 y1 dX bD aN).bind fun ri=>
 (ky l (⟨order,3,ri,oY⟩:aW)).bind fun sw=>
 some (sw.1,sw.2)))))))))
instance (l:List aW)(order:Int)(dX:Int)(bD:Int)(aN:List Int)(oY:Int):CT Tryz.prog (fw l order dX bD aN oY):=⟨236,[.sl (l.map bO),vi order,vi dX,vi bD,.sl (aN.map aG),vi oY],[],fun r=>.tu [.ms 0,vi r.2],fun r=>[some ⟨.of 111,4,r.1.map bO⟩],fun H=>by replace H:=H0 H;unfold fw at H;exact aA Tryz.func236 rfl Tryz.ntmps236 Tryz.results236 fun Q hQ cR=>dU⟩
def nR(o:aM)(i:Int):Option Bool:=
 (aC o.aK i).bind fun y1=>
 (aC o.world.ah i).bind fun y2=>
 (gS o.aY o.ba y1).bind fun y3=>
 cond y3.2
 (cond (decide (y2.ar=y1.ar))
 (cond (decide (y2.aV=y1.label.aV))
 (cond (decide (y2.ax=y1.label.ax))
 (cond (decide (y2.ab=y1.ab))
 ((eK o.lines (aL (i+1)) 1).bind fun y4=>
 some (decide (y4=y3.1)))
 (some false))
 (some false))
 (some false))
 (some false))
 (some false)
instance (o:aM)(i:Int):CT Tryz.prog (nR o i):=⟨133,[.ag (lk o),vi i],[],fun r=>vb r,fun r=>[],fun H=>by replace H:=H0 H;unfold nR at H;exact aA Tryz.func133 rfl Tryz.ntmps133 Tryz.results133 fun Q hQ cR=>dU⟩
def qu(code:List YB8)(s0:Int×Int):Option ((Int×Int)⊕Int):=
 cond (decide (s0.2<(code.length:Int)))
 (cond (decide (s0.2<4000))
 ((aC code s0.2).bind fun y1=>
 some (.inl ((IntKind.i64.wrap (Wn IntKind.i64.bits (aL ((aL ((aL (s0.1*167))+(IntKind.i64.wrap y1.v)))+29)) &&& Wn IntKind.i64.bits 1073741823).toNat),(aL (s0.2+1)))))
 (some (.inr s0.1)))
 (some (.inr s0.1))
instance (code:List YB8):bm (qu code):=⟨fun s0=>(.sl (code.map cB8)::.un::.un::vi s0.1::vi s0.2::(U 28 [])),fun s0=>[]⟩
def om(code:List YB8):Option aP:=
 (aD (qu code) NN ((aL (744201+(aL (3*(code.length:Int))))),0)).bind (fun o0=>
 some (⟨code,0,o0⟩:aP))
instance (code:List YB8):CT Tryz.prog (om code):=⟨26,[.sl (code.map cB8)],[],fun r=>.be 0 0 0,fun r=>[some ⟨.of 139,3,[[.sl (r.b.map cB8),vi r.i,vi r.h]]⟩],fun H=>by replace H:=H0 H;unfold om at H;exact aA Tryz.func26 rfl Tryz.ntmps26 Tryz.results26 fun Q hQ cR=>dU⟩
def fv(a:Int)(b:Int):Option Int:=
 cond (decide (a<b))
 (some b)
 (some a)
instance (a:Int)(b:Int):CT Tryz.prog (fv a b):=⟨181,[vi a,vi b],[],fun r=>vi r,fun r=>[],fun H=>by replace H:=H0 H;unfold fv at H;exact aA Tryz.func181 rfl Tryz.ntmps181 Tryz.results181 fun Q hQ cR=>dU⟩
def gY(places:List ByteArray)(cG:Int)(mO:Int)(s0:Int×(List Int)):Option ((Int×(List Int))⊕(List Int)):=
 cond (decide (s0.1<(places.length:Int)))
 (cond (decide (s0.1=cG))
 ((fv mO 0).bind fun y1=>
 (cL (bo ((s0.2:List Int).length+([y1]:List Int).length) 8)).bind fun _=>
 some (.inl ((aL (s0.1+1)),((s0.2:List Int)++[y1]))))
 ((cL (bo ((s0.2:List Int).length+([(-1)]:List Int).length) 8)).bind fun _=>
 some (.inl ((aL (s0.1+1)),((s0.2:List Int)++[(-1)])))))
 (some (.inr s0.2))
instance (places:List ByteArray)(cG:Int)(mO:Int):bm (gY places cG mO):=⟨fun s0=>(.sl (places.map jH)::vi cG::vi mO::(U 4 (.ms 0::vi s0.1::(U 19 [])))),fun s0=>[some ⟨.of 3,1,s0.2.map aG⟩]⟩
def gX(places:List ByteArray)(cG:Int)(mO:Int):Option (List Int):=
 (aD (gY places cG mO) NN (0,([]:List Int))).bind (fun o0=>
 some o0)
instance (places:List ByteArray)(cG:Int)(mO:Int):CT Tryz.prog (gX places cG mO):=⟨342,[.sl (places.map jH),vi cG,vi mO],[],fun r=>.ms 0,fun r=>[some ⟨.of 3,1,r.map aG⟩],fun H=>by replace H:=H0 H;unfold gX at H;exact aA Tryz.func342 rfl Tryz.ntmps342 Tryz.results342 fun Q hQ cR=>dU⟩
def cN(n:aj)(fg:Int)(first:Bool):Option Int:=
 cond first
 (some fg)
 (some (aL (fg+n.change)))
instance (n:aj)(fg:Int)(first:Bool):CT Tryz.prog (cN n fg first):=⟨345,[.ag (bA n),vi fg,vb first],[],fun r=>vi r,fun r=>[],fun H=>by replace H:=H0 H;unfold cN at H;exact aA Tryz.func345 rfl Tryz.ntmps345 Tryz.results345 fun Q hQ cR=>dU⟩
def ko(n:aj)(fg:Int)(start:Bool):Option Int:=
 cond start
 (some fg)
 (some (aL (fg+n.change)))
instance (n:aj)(fg:Int)(start:Bool):CT Tryz.prog (ko n fg start):=⟨329,[.ag (bA n),vi fg,vb start],[],fun r=>vi r,fun r=>[],fun H=>by replace H:=H0 H;unfold ko at H;exact aA Tryz.func329 rfl Tryz.ntmps329 Tryz.results329 fun Q hQ cR=>dU⟩
def qZ(n:aj)(l:List ao)(ae:List au)(ab:Int):Option (aj×(List au)×(List ao)×Int):=
 some (n,ae,l,ab)
instance (n:aj)(l:List ao)(ae:List au)(ab:Int):CT Tryz.prog (qZ n l ae ab):=⟨274,[.ag (bA n),.sl (l.map aB),.sl (ae.map aS),vi ab],[],fun r=>.fn 314 [.rp [.sl (r.1.ay.map bp),.sl (r.1.off.map aG),vi r.1.change],.rp [.sl (r.2.1.map aS)],.rp [.sl (r.2.2.1.map aB)],.rp [vi r.2.2.2]],fun r=>[],fun H=>by replace H:=H0 H;unfold qZ at H;exact aA Tryz.func274 rfl Tryz.ntmps274 Tryz.results274 fun Q hQ cR=>dU⟩
class xm{α β:Type}[dT β](c:α→List PV)(g:α→β):Prop where
 len:∀x,(c x).length=dT.k β
 aO:∀x (j:Nat) (p:PV),(c x)[j]?=some p→∃u,(dT.cells (g x))[j]?=some u∧p=.v u
theorem Vi{α β:Type}[dT β]{c:α→List PV}(g:α→β)[hf:xm c g]{S:Nat→Prop}{xs:List α}{x:Value}(Bu:∀b,S b→b<w.heap.size)(h:fA w S (.sl (xs.map c)) x):
 ∃A n,x=.slice A xs.length n∧xs.length≤n∧(xs≠[]→n≤maxLen)∧Rd w w.heap.size A (xs.map g):=by
 generalize hq:PV.sl (xs.map c)=q at h
 cases h with
 |v x h=>cases hq
 |ud=>cases hq
 |un=>cases hq
 |rp=>cases hq
 |fn=>cases hq
 |nil A n=>
  have:xs=[]:=by simpa using hq
  exact⟨A,n,by rw[this];rfl,by rw[this];simp,fun h=>absurd this h,by rw[this];exact Rd.U2⟩
 |sl es b off k n u hS hkp wU hm xx zH h1 hrr=>
  obtain rfl:xs.map c=es:=by simpa using hq
  refine⟨_,n,by simp,by simpa using wU,fun _=>hm,fun iw=>⟨b,off,rfl,Bu b hS,fun t u' x7=>?_⟩⟩
  have Zbg:xs≠[]:=fun e=>iw (by rw[e];rfl)
  have gz:0<xs.length:=X5.2 Zbg
  have Us:k=dT.k β:=((xx 0 (c xs[0]) (by simp[gz])).symm).trans (hf.len _)
  subst Us
  have Zc7:0<dT.k β:=hkp
  have ht:=(VU.1 x7).1
  rw[nZ,List.length_map]at ht
  have hi:t / dT.k β<xs.length:=by rw[Nat.div_lt_iff_lt_mul Zc7];exact ht
  have hj:=Nat.mod_lt t Zc7
  have e0:t / dT.k β*dT.k β+t % dT.k β=t:=by rw[Nat.mul_comm];exact Nat.div_add_mod t _
  have e1:(xs.map c)[t / dT.k β]?=some (c xs[t / dT.k β]):=by simp[hi]
  have e2:(c xs[t / dT.k β])[t % dT.k β]?=some ((c xs[t / dT.k β])[t % dT.k β]'(by rw[hf.len];exact hj)):=VT _
  obtain⟨v,hv,hp⟩:=hf.aO _ _ _ e2
  have EV:=uy (xs:=xs.map g) (i:=t / dT.k β) (x:=g xs[t / dT.k β]) (by simp[hi]) hv
  rw[e0,x7]at EV
  obtain rfl:=VV EV
  have hc:=zH _ _ _ _ e1 e2
  have hz:=hrr _ _ _ _ e1 e2
  rw[hp]at hz
  have tT:u (t / dT.k β) (t % dT.k β)=u':=by
   generalize u (t / dT.k β) (t % dT.k β)=z at hz
   cases hz with
   |v _ _=>rfl
  rw[tT]at hc
  rw[←e0,←Nat.add_assoc]
  exact hc
theorem Zco{vs:Array Value}{x0 x1 x2:Value}(h:vs.size=3)(h0:vs[0]?=some x0)(h1:vs[1]?=some x1)(h2:vs[2]?=some x2):vs=#[x0,x1,x2]:=by
 apply YE (by simp[h])
 intro i hi h3
 have a0:=(V6.1 h0).2
 have a1:=(V6.1 h1).2
 have a2:=(V6.1 h2).2
 match i,hi with
 |0,_=>simpa using a0
 |1,_=>simpa using a1
 |2,_=>simpa using a2
 |i+3,hi=>omega
theorem LX{E:Env}{a x:Value}(h:dL w E (.v a) x):x=a:=h.iG.1
instance:xm aG (id:Int→Int):=⟨fun x=>rfl,fun x j p h=>by
 cases j with
 |zero=>obtain rfl:vi x=p:=by simpa using h
        exact⟨_,rfl,rfl⟩
 |succ j=>simp[aG]at h⟩
theorem iZ.A8{P:Program}{f:FuncId}{args:List PV}{T:TypeId}{k:Nat}{es:List (List PV)}(h:iZ P f args [] (.ms 0) [some ⟨T,k,es⟩])(xx:∀cs∈es,∀p∈cs,qn p=true):iZ P f args [] (.sl es) []:=by
 intro S β w vs ω xz hl ha
 refine(h S β w vs ω xz hl ha).mono ?_
 rintro e w' ⟨v,E',rfl,hk,Tc,D4,_,hr⟩
 obtain⟨B,hB,hb,rfl⟩:=hr.sI hk (l:=0) rfl
 have D8:=hb.k
 have hn:=hb.n
 simp only at D8 hn
 have xF:∀l,β l=none:=fun l=>by
  cases h:β l with
  |none=>rfl
  |some B0=>obtain⟨mb,hm⟩:=xz.dom l B0 h;simp at hm
 let S':Nat→Prop:=fun b=>E'.S b∨(B.z=false∧b=B.b)
 have ik:Ok w (nL β) (E1 S' (fun _=>none) 0) w' []:=
  ⟨hk.up,fun b uX=>by
   rcases uX with h|⟨hz,rfl⟩
   ·exact hk.sz b h
   ·exact(hk.own 0 B hB hz).2.1,fun l B h=>(by cases h),fun l l' B B' h=>(by cases h),fun l h=>absurd h (XV l),fun l B h=>(by cases h),fun l mb h=>(by simp at h),fun l B h=>(by cases h),hk.Tm,fun _ _ h=>h.elim⟩
 have Gq:B.z=false→S B.b∨w.heap.size≤B.b∨nL β B.b:=fun hz=>by
  rcases(hk.own 0 B hB hz).1 with h|h
  ·exact .inr (.inr h)
  ·exact .inr (.inl h)
 refine⟨B.sv,E1 S' (fun _=>none) 0,rfl,ik,fun b uX=>.inl (Tc b uX),fun b uX=>?_,⟨fun l B h=>absurd h (XV l),fun _ _ h=>h.elim⟩,.c ?_⟩
 ·rcases uX with h|⟨hz,rfl⟩
  ·exact D4 b h
  ·exact Gq hz
 ·cases hz:B.z with
  |true=>
   have h0:es=[]:=hb.nil hz
   subst h0
   have DX:B.sv=.slice none 0 0:=by simp[qa.sv,hz]
   rw[DX]
   exact .nil _ _
  |false=>
   have DX:B.sv=.slice (some ⟨B.b,0,none⟩) es.length B.c:=by simp[qa.sv,hz,hn]
   rw[DX]
   obtain⟨cells,hc,qF,yx⟩:=hb.mem hz
   have Bb:∀(i:Nat) (cs:List PV) (j:Nat) (p:PV),es[i]?=some cs→cs[j]?=some p→∃x,w'.cell? ⟨B.b,0+i*k+j,none⟩=some x∧x.oneCell'=true∧fA w' S' p x:=by
    intro i cs j p hi hj
    obtain⟨x,x1,x2,x3⟩:=yx i cs j p hi hj
    rw[D8]at x1
    refine⟨x,by rw[Wb,cell_of_row w' B.b _ cells B.T (0,0) hc,x1],x2,?_⟩
    exact(x3.ZdQ (xx cs (VW hi) p (VW hj))).ext (fun b hb=>.inl hb) (fun _ _ _=>rfl)
   exact .sl es B.b 0 k B.c (fun i j=>(w'.cell? ⟨B.b,0+i*k+j,none⟩).getD .nilIface) (.inr ⟨hz,rfl⟩) (by rw[←D8];exact hb.pos) (by rw[←hn];exact hb.nc) hb.cm (fun i cs hi=>by rw[←D8];exact hb.es i cs hi)
    (fun i cs j p hi hj=>by obtain⟨x,x1,_⟩:=Bb i cs j p hi hj;rw[x1];rfl)
    (fun i cs j p hi hj=>by obtain⟨x,x1,x2,_⟩:=Bb i cs j p hi hj;rw[x1];exact x2)
    (fun i cs j p hi hj=>by obtain⟨x,x1,_,x3⟩:=Bb i cs j p hi hj;rw[x1];exact x3)
def jI(l:List au):Option (List au):=eW l
theorem vG(l:List au){r:List au}(H:jI l=some r):iZ Tryz.prog 185 [.sl (l.map aS)] [] (.sl (r.map aS)) []:=
 (CT.ok (P:=Tryz.prog) (x:=eW l) H).A8 fun cs qF p hp=>by
  obtain⟨x,_,rfl⟩:=List.mem_map.1 qF
  simp only[aS,List.mem_cons,List.not_mem_nil,or_false]at hp
  rcases hp with rfl|rfl<;>rfl
instance (l:List au):CT Tryz.prog (jI l):=⟨185,[.sl (l.map aS)],[],fun r=>.sl (r.map aS),fun r=>[],vG l⟩
def gJ(p:a8):Option a8:=
 (cL (bo ((([]:List Int):List Int).length+(p.cq:List Int).length) 8)).bind fun _=>
 some (⟨p.label,p.ar,p.ab,((([]:List Int):List Int)++p.cq),p.value⟩:a8)
instance (p:a8):CT Tryz.prog (gJ p):=⟨96,[.ag (bS p)],[],fun r=>.ag [vi r.label.ax,vi r.label.fz,vs r.label.aV,vs r.ar,vi r.ab,.sl (r.cq.map aG),vi r.value],fun r=>[],fun H=>by replace H:=H0 H;unfold gJ at H;exact aA Tryz.func96 rfl Tryz.ntmps96 Tryz.results96 fun Q hQ cR=>dU⟩
end Go.Proofs.YtbalgkakkoocjaaGreat
