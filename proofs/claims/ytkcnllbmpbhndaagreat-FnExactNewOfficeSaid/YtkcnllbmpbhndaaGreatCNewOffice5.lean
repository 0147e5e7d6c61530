/- A part of the proof of the statement in the last file of this claim: texts on the language of the program and on its functions. No condition. -/
import Derived.Test.YtkcnllbmpbhndaaGreatCNewOffice4
import Derived.Shelf.Small.Bits
import Derived.Shelf.Strconv.Itoa0
import Derived.Shelf.Sort.Plain
import Derived.Shelf.Slices.In.SortNone
import Derived.Shelf.Slices.In.SortNone2
import Derived.Test.YtkcnllbmpbhndaaGreatProg
import Derived.Shelf.GgSortMore.Iface
import Derived.Sort.OwnSortedInts
import Derived.Test.YtkcnllbmpbhndaaGreatCNewOffice1
import Derived.Laws.AppendOwnNone
import Derived.Test.YtkcnllbmpbhndaaGreatCNewOffice3
import Derived.Maps.OwnSet
import Derived.StringKeys
import Derived.Deep.AppendLies
import Derived.Sort.OwnSorted
import Derived.Deep.QuietTactic
import Derived.BigQuiet
import Derived.Deep.DeepCutAuto
import Derived.StillTailTactics
import Derived.Deep.RegionHeld3
namespace Go.Proofs.YtkcnllbmpbhndaaGreat
set_option maxRecDepth 10000
open Go.RowKit
set_option linter.unusedVariables false
set_option linter.unusedSimpArgs false
theorem ZnK (n l h:Int):Ze n l h=some (decide (l≤n) && decide (n≤h)):=by
 unfold Ze; cases decide (l≤n) <;> rfl
theorem ZcK (n l h:Int):Zl n l h=some (decide (l≤n) && decide (n≤h)):=by
 unfold Zl; cases decide (l≤n) <;> rfl
theorem Zct:@Ze=@Zl:=by funext n l h; rw [ZnK,ZcK]
theorem ZsS {s:ByteArray} {i c:Int} (h:getB s i=some c):0≤c∧c≤255:=by
 unfold getB at h
 split at h
 ·cases h
  unfold Zkv
  cases hb:s[i.toNat]? with
  | none=>simp
  | some b=>
   have:=b.toNat_lt
   simp only [Option.map_some,Option.getD_some]
   omega
 ·cases h
theorem ZpG {s:ByteArray} (hs:s.size=3):ZA s=ZdA s:=by
 funext i
 unfold ZA ZdA
 rw [hs]
 cases hi:decide (i<3) with
 | false=>simp [hi]
 | true=>
  simp only [show ((3:Nat):Int)=3 from rfl,hi,cond_true]
  cases hg:getB s i with
  | none=>rfl
  | some y=>
   obtain ⟨h0,h1⟩:=ZsS hg
   simp only [Option.bind_some,hg]
   rw [show IntKind.i64.wrap y=y from Zy (by omega),ZcK]
   simp only [Option.bind_some]
   by_cases h2:y<65
   ·simp [h2,show ¬ (65≤y) by omega]
   ·by_cases h3:90<y
    ·simp [h2,h3,show ¬ (y≤90) by omega]
    ·simp [h2,h3,show 65≤y by omega,show y≤90 by omega]
theorem Zpc {s:ByteArray} {i:Nat} (h:i<s.size):∃ c,getB s (i:Int)=some c:=by
 unfold getB; exact ⟨_,if_pos ⟨by omega,by omega⟩⟩
theorem Zmi {s:ByteArray} (hs:s.size≤1152921504606846000):∀ (k i N:Nat),i+k=s.size→k<N→∃ o,Zc (ZA s) N (i:Int)=some o∧(o=.inl ()∨o=.inr false):=by
 intro k
 induction k with
 | zero=>
  intro i N hi hk
  cases N with
  | zero=>omega
  | succ N=>exact ⟨.inl (),by simp [Zc,ZA,show ¬ ((i:Int)<s.size) by omega],.inl rfl⟩
 | succ k ih=>
  intro i N hi hk
  cases N with
  | zero=>omega
  | succ N=>
   obtain ⟨c,hc⟩:=Zpc (s:=s) (i:=i) (by omega)
   have hw:=Zq (i:=i) (n:=s.size) (by omega) (by omega)
   by_cases h2:c<65
   ·exact ⟨.inr false,by simp [Zc,ZA,show (i:Int)<s.size by omega,hc,h2],.inr rfl⟩
   ·by_cases h3:90<c
    ·exact ⟨.inr false,by simp [Zc,ZA,show (i:Int)<s.size by omega,hc,h2,h3],.inr rfl⟩
    ·obtain ⟨o,ho,hoo⟩:=ih (i+1) N (by omega) (by omega)
     refine ⟨o,?_,hoo⟩
     simp only [Zc,ZA,decide_eq_true (show (i:Int)<s.size by omega),cond_true,hc,Option.bind_some,decide_eq_false h2,decide_eq_false h3,cond_false,hw]
     exact ho
theorem Ze3 {s:ByteArray} (hs:s.size≤1152921504606846000):ZF s=Zw s∧∃ b,Zw s=some b:=by
 obtain ⟨o,ho,hoo⟩:=Zmi hs s.size 0 NN (by omega) (by unfold NN; omega)
 have ho':Zc (ZA s) NN 0=some o:=ho
 by_cases h3:s.size=3
 ·have e:Zw s=(Zc (ZA s) NN 0).bind (Zp (fun _=>some true) (fun r=>some r)):=by
   unfold Zw; rw [ZpG h3,h3]; rfl
  have e2:ZF s=(Zc (ZA s) NN 0).bind (Zp (fun _=>some (decide ((s.size:Int)=3))) (fun r=>some r)):=rfl
  rw [e,e2,ho',h3]
  rcases hoo with rfl | rfl
  ·exact ⟨rfl,_,rfl⟩
  ·exact ⟨rfl,_,rfl⟩
 ·have e:Zw s=some false:=by unfold Zw; rw [decide_eq_false (by omega)]; rfl
  have e2:ZF s=some false:=by
   unfold ZF; rw [ho']
   rcases hoo with rfl | rfl
   ·show some _=some _; rw [decide_eq_false (by omega)]
   ·rfl
  exact ⟨by rw [e,e2],_,e⟩
def B60:Nat:=1152921504606846000
end Go.Proofs.YtkcnllbmpbhndaaGreat
namespace Go.Proofs
open Go.Shelf
def Tryz.lays125_ren:Go.Shelf.Ren:=⟨fun | 125=>181 | 128=>193 | 129=>194 | n=>n,fun | 46=>184 | 3=>3 | 51=>199 | 53=>201 | 4=>4 | 5=>5 | 9=>9 | n=>n,fun | n=>n⟩
theorem Tryz.lays125:Go.Proofs.Lays.n125 Tryz.prog Tryz.lays125_ren:={
 mixed:=by kernel_rfl
 f125:=Tryz.func181.trans (congrArg some (by kernel_rfl))
 f128:=Tryz.func193.trans (congrArg some (by kernel_rfl))
 f129:=Tryz.func194.trans (congrArg some (by kernel_rfl))
 t3:=Tryz.underlying3
 a3:=Tryz.isAgg3
 z3:=Tryz.sizeOf3
 v3:=Tryz.zeroValue3
 t4:=Tryz.underlying4
 a4:=Tryz.isAgg4
 z4:=Tryz.sizeOf4
 v4:=Tryz.zeroValue4
 t5:=Tryz.underlying5
 a5:=Tryz.isAgg5
 z5:=Tryz.sizeOf5
 v5:=Tryz.zeroValue5
 t9:=Tryz.underlying9
 a9:=Tryz.isAgg9
 z9:=Tryz.sizeOf9
 v9:=Tryz.zeroValue9
 t46:=Tryz.underlying184
 a46:=Tryz.isAgg184
 z46:=Tryz.sizeOf184
 v46:=Tryz.zeroValue184
 t51:=Tryz.underlying199
 a51:=Tryz.isAgg199
 z51:=Tryz.sizeOf199
 v51:=Tryz.zeroValue199
 t53:=Tryz.underlying201
 a53:=Tryz.isAgg201
 z53:=Tryz.sizeOf201
 v53:=Tryz.zeroValue201 }
theorem Tryz.bits_Len (x:Int) (w:World) (h0:0≤x) (h1:x≤18446744073709551615):
 Calls Tryz.prog 181 #[.int .u64 x] w fun e w'=>e=.returned (.int .i64 (Lib.bitLen x.toNat))∧w'=w:=Any.bits_Len Tryz.lays125 x w h0 h1
def Tryz.lays192_ren:Go.Shelf.Ren:=⟨fun | 192=>161 | 190=>177 | 125=>181 | 258=>180 | 128=>193 | 129=>194 | 302=>184 | 303=>185 | 304=>186 | 305=>187 | 306=>188 | 307=>189 | 308=>190 | 309=>191 | 310=>192 | 333=>196 | 329=>197 | 330=>198 | 334=>199 | 335=>200 | 336=>201 | 344=>210 | n=>n,fun | 31=>150 | 0=>0 | 9=>9 | 3=>3 | 46=>184 | 51=>199 | 53=>201 | 4=>4 | 183=>192 | 182=>191 | 131=>121 | 5=>5 | 218=>207 | 222=>211 | 228=>221 | 229=>222 | n=>n,fun | n=>n⟩
theorem Tryz.lays192:Go.Proofs.Lays.n192 Tryz.prog Tryz.lays192_ren:={
 mixed:=by kernel_rfl
 f125:=Tryz.func181.trans (congrArg some (by kernel_rfl))
 f128:=Tryz.func193.trans (congrArg some (by kernel_rfl))
 f129:=Tryz.func194.trans (congrArg some (by kernel_rfl))
 f190:=Tryz.func177.trans (congrArg some (by kernel_rfl))
 f192:=Tryz.func161.trans (congrArg some (by kernel_rfl))
 f258:=Tryz.func180.trans (congrArg some (by kernel_rfl))
 f302:=Tryz.func184.trans (congrArg some (by kernel_rfl))
 f303:=Tryz.func185.trans (congrArg some (by kernel_rfl))
 f304:=Tryz.func186.trans (congrArg some (by kernel_rfl))
 f305:=Tryz.func187.trans (congrArg some (by kernel_rfl))
 f306:=Tryz.func188.trans (congrArg some (by kernel_rfl))
 f307:=Tryz.func189.trans (congrArg some (by kernel_rfl))
 f308:=Tryz.func190.trans (congrArg some (by kernel_rfl))
 f309:=Tryz.func191.trans (congrArg some (by kernel_rfl))
 f310:=Tryz.func192.trans (congrArg some (by kernel_rfl))
 f329:=Tryz.func197.trans (congrArg some (by kernel_rfl))
 f330:=Tryz.func198.trans (congrArg some (by kernel_rfl))
 f333:=Tryz.func196.trans (congrArg some (by kernel_rfl))
 f334:=Tryz.func199.trans (congrArg some (by kernel_rfl))
 f335:=Tryz.func200.trans (congrArg some (by kernel_rfl))
 f336:=Tryz.func201.trans (congrArg some (by kernel_rfl))
 f344:=Tryz.func210.trans (congrArg some (by kernel_rfl))
 t0:=Tryz.underlying0
 a0:=Tryz.isAgg0
 z0:=Tryz.sizeOf0
 v0:=Tryz.zeroValue0
 t3:=Tryz.underlying3
 a3:=Tryz.isAgg3
 z3:=Tryz.sizeOf3
 v3:=Tryz.zeroValue3
 t4:=Tryz.underlying4
 a4:=Tryz.isAgg4
 z4:=Tryz.sizeOf4
 v4:=Tryz.zeroValue4
 t5:=Tryz.underlying5
 a5:=Tryz.isAgg5
 z5:=Tryz.sizeOf5
 v5:=Tryz.zeroValue5
 t9:=Tryz.underlying9
 a9:=Tryz.isAgg9
 z9:=Tryz.sizeOf9
 v9:=Tryz.zeroValue9
 t31:=Tryz.underlying150
 a31:=Tryz.isAgg150
 z31:=Tryz.sizeOf150
 v31:=Tryz.zeroValue150
 t46:=Tryz.underlying184
 a46:=Tryz.isAgg184
 z46:=Tryz.sizeOf184
 v46:=Tryz.zeroValue184
 t51:=Tryz.underlying199
 a51:=Tryz.isAgg199
 z51:=Tryz.sizeOf199
 v51:=Tryz.zeroValue199
 t53:=Tryz.underlying201
 a53:=Tryz.isAgg201
 z53:=Tryz.sizeOf201
 v53:=Tryz.zeroValue201
 t131:=Tryz.underlying121
 a131:=Tryz.isAgg121
 z131:=Tryz.sizeOf121
 v131:=Tryz.zeroValue121
 t182:=Tryz.underlying191
 a182:=Tryz.isAgg191
 z182:=Tryz.sizeOf191
 v182:=Tryz.zeroValue191
 t183:=Tryz.underlying192
 a183:=Tryz.isAgg192
 z183:=Tryz.sizeOf192
 v183:=Tryz.zeroValue192
 t218:=Tryz.underlying207
 a218:=Tryz.isAgg207
 z218:=Tryz.sizeOf207
 v218:=Tryz.zeroValue207
 t222:=Tryz.underlying211
 a222:=Tryz.isAgg211
 z222:=Tryz.sizeOf211
 v222:=Tryz.zeroValue211
 t228:=Tryz.underlying221
 a228:=Tryz.isAgg221
 z228:=Tryz.sizeOf221
 v228:=Tryz.zeroValue221
 t229:=Tryz.underlying222
 a229:=Tryz.isAgg222
 z229:=Tryz.sizeOf222
 v229:=Tryz.zeroValue222 }
open Go.Sort Go.RowKit in
theorem Tryz.sort_Strings (blk off cap:Nat) (ss:List (List UInt8)) (w:World) (hH:Holds encStr w blk off ss.toArray) (hblk:blk<w.heap.size) (hsz:ss.length<4611686018427387904):
 Calls Tryz.prog 161 #[.slice (some ⟨blk,off,none⟩) ss.length cap] w fun e w'=>
  e=.returned (.tuple #[])∧∃ n os,w'=grow (putRow encStr (Sort.ahead w n) blk off (ss.mergeSort fun x y=>decide (x≤y)).toArray) os:=Any.sort_Strings Tryz.lays192 blk off cap ss w hH hblk hsz
end Go.Proofs
namespace Go.Proofs.YtkcnllbmpbhndaaGreat
set_option maxRecDepth 10000
open Go.RowKit
set_option linter.unusedVariables false
set_option linter.unusedSimpArgs false
set_option maxRecDepth 100000
abbrev RP (b:Nat):Value:=.pointer (some ⟨b,0,none⟩)
theorem Zp8 (w:World) (b f:Nat) (sv:Value) (nm:String) (h:w.cell? ⟨b,0,none⟩=some (.iface 189 sv))
 (hm:(((Tryz.prog.info? 204).bind fun i=>i.methods.find? (·.name == nm)).map fun m=>(m.path,m.func))=some (#[⟨206,0,true⟩],none))
 (hi:Sem.run Tryz.prog (method (Tryz.prog.types.size+99) 189 sv nm) w=.ok (f,sv) w):
 Sem.run Tryz.prog (method (Tryz.prog.types.size+100) 204 (RP b) nm) w=.ok (f,sv) w:=by
 obtain ⟨m,hm1,hm2⟩:=Option.map_eq_some_iff.1 hm
 obtain ⟨i,hi',hm'⟩:=Option.bind_eq_some_iff.1 hm1
 have hpa:m.path=#[⟨206,0,true⟩]:=congrArg Prod.fst hm2
 have hfu:m.func=none:=congrArg Prod.snd hm2
 have u:=run_underlying Tryz.underlying206
 unfold method
 have hl:Sem.run Tryz.prog (Sem.load Mode.plain ({ block:=b,off:=0 }:Addr) Sem.pure) w=.ok (.iface 189 sv) w:=by
  simp [Sem.run,h]
 simp [typeInfo,hi',hm',hpa,hfu,follow,Place.get,u,asAddr,loadVar,isAgg,load,h,fieldPlace]
 rw [show ({ block:=b,off:=0 }:Addr).add 0={ block:=b,off:=0 } from rfl,hl]
 exact hi
theorem ZrD (w:World) (b:Nat) (sv:Value) (h:w.cell? ⟨b,0,none⟩=some (.iface 189 sv)):
 Sem.run Tryz.prog (method (Tryz.prog.types.size + 100) 204 (RP b) "Less") w = .ok (237, .agg #[.iface 189 sv]) w := by
 have hm : (((Tryz.prog.info? 204).bind fun i => i.methods.find? (·.name == "Less")).map fun m => (m.path, m.func)) = some (#[], some (237, false)) := by kernel_rfl
 obtain ⟨m,hm1,hm2⟩:=Option.map_eq_some_iff.1 hm
 obtain ⟨i,hi',hm'⟩:=Option.bind_eq_some_iff.1 hm1
 have hpa:m.path=#[]:=congrArg Prod.fst hm2
 have hfu:m.func=some (237,false):=congrArg Prod.snd hm2
 have u:=run_underlying Tryz.underlying204
 have u2:=run_underlying Tryz.underlying206
 unfold method
 have hlv:Sem.run Tryz.prog (loadVar 206 ⟨b,0,none⟩) w=.ok (.agg #[.iface 189 sv]) w:=by
  have a1:=Tryz.isAgg206
  have a2:=Tryz.sizeOf206
  have hl:Sem.run Tryz.prog (Sem.load Mode.plain ({ block:=b,off:=0 }:Addr) Sem.pure) w=.ok (.iface 189 sv) w:=by
   simp [Sem.run,h]
  unfold loadVar loadCells
  simp [a1,a2,loadCellsFrom,load]
  rw [show ({ block:=b,off:=0 }:Addr).add 0={ block:=b,off:=0 } from rfl,hl]
  rfl
 have hk:∀ (x y:ByteArray) (w:World),Sem.run Tryz.prog (Builtin.ssaWrapNilChk_ #[204] 204 #[RP b,.string x,.string y]) w=.ok (RP b) w:=fun _ _ _=>rfl
 have hf:Sem.run Tryz.prog (follow [] 204 (Place.val (RP b))) w=.ok (204,Place.val (RP b)) w:=rfl
 have hr:∀ x,Sem.run Tryz.prog (receiverAt 204 (Place.val (RP b)) false (some x)) w=.ok (.agg #[.iface 189 sv]) w:=by
  intro x
  unfold receiverAt
  simp [u,Place.get,strVal,hk,asAddr,hlv]
 simp [typeInfo,hi',hm',hpa,hfu,hf,hr]
open Go.Lib Go.Sort
set_option maxHeartbeats 4000000
abbrev SV (blk off n c:Nat):Value:=.slice (some ⟨blk,off,none⟩) n c
theorem Zt5 (blk off n c : Nat) (w : World) : Sem.run Tryz.prog (method (Tryz.prog.types.size + 99) 189 (SV blk off n c) "Len") w = .ok (233, SV blk off n c) w := by kernel_rfl
theorem ZsX (blk off n c : Nat) (w : World) : Sem.run Tryz.prog (method (Tryz.prog.types.size + 99) 189 (SV blk off n c) "Swap") w = .ok (236, SV blk off n c) w := by kernel_rfl
theorem ZsW (blk off n c : Nat) (w : World) : Sem.run Tryz.prog (method (Tryz.prog.types.size + 100) 189 (SV blk off n c) "Less") w = .ok (234, SV blk off n c) w := by kernel_rfl
theorem Zq9 (blk off c size:Nat) (W:World) (G:Nat→Int) (hc:∀ t,t<size→W.cell? ⟨blk,off+t,none⟩=some (.int .i64 (G t))) (i j:Nat) (hi:i<size) (hj:j<size) (_hsz:size<4611686018427387904):
 Calls Tryz.prog 234 #[SV blk off size c,.int .i64 i,.int .i64 j] W fun e w'=>e=.returned (.bool (decide (G i<G j)))∧∃ q,w'=W.drewN q:=by
 have ci:=hc i hi
 have cj:=hc j hj
 go_enter Tryz.func234,Tryz.ntmps234
 go_wp2
 go_quiet (fail)
 go_wp2
 go_ret
 exact ⟨rfl,nq,rfl⟩
theorem Zra (blk off c size:Nat) (W:World) (x y:Int) (i j:Nat) (hi:i<size) (hj:j<size) (_hsz:size<4611686018427387904)
 (ci:W.cell? ⟨blk,off+i,none⟩=some (.int .i64 x)) (cj:W.cell? ⟨blk,off+j,none⟩=some (.int .i64 y)) (fi:W.frozen? ⟨blk,off+i,none⟩=false) (fj:W.frozen? ⟨blk,off+j,none⟩=false):
 Calls Tryz.prog 236 #[SV blk off size c,.int .i64 i,.int .i64 j] W fun e w'=>e=.returned (.tuple #[])∧∃ q,w'=((W.setCell ⟨blk,off+i,none⟩ (.int .i64 y)).setCell ⟨blk,off+j,none⟩ (.int .i64 x)).drewN q:=by
 obtain ⟨v',hy'⟩:=cell?_setCell_some (w:=W) (p:=⟨blk,off+i,none⟩) (x:=.int .i64 y) (q:=⟨blk,off+j,none⟩) cj
 go_enter Tryz.func236,Tryz.ntmps236
 go_wp2
 go_region
 all_goals (try go_wp2)
 all_goals go_end0
 all_goals exact ⟨rfl,1,rfl⟩
theorem ZsY (blk off c size:Nat) (W:World):Calls Tryz.prog 233 #[SV blk off size c] W fun e w'=>e=.returned (.int .i64 size)∧w'=W:=by
 go_enter Tryz.func233,Tryz.ntmps233
 go_wp2
 go_ret
 exact ⟨rfl,rfl⟩
theorem ZrB (blk off c size:Nat) (W:World) (G:Nat→Int) (hc:∀ t,t<size→W.cell? ⟨blk,off+t,none⟩=some (.int .i64 (G t))) (hb:blk<W.heap.size) (i j:Nat) (hi:i<size) (hj:j<size) (hsz:size<4611686018427387904):
 Calls Tryz.prog 237 #[.agg #[.iface 189 (SV blk off size c)],.int .i64 i,.int .i64 j] W fun e w'=>e=.returned (.bool (decide (G j<G i)))∧∃ o q,w'=(W.alloc o).drewN q:=by
 have mL:=ZsW blk off size c
 have eL:∀ args w,(callFunc 234 args).run Tryz.prog w=.ok (.enter 234 args) w:=enters_of Tryz.func234 (by kernel_rfl) rfl
 simp at mL
 have hl:∀ o,Calls Tryz.prog 234 #[SV blk off size c,.int .i64 j,.int .i64 i] (W.alloc o) fun e w'=>e=.returned (.bool (decide (G j<G i)))∧∃ q,w'=(W.alloc o).drewN q:=fun o=>
  Zq9 blk off c size _ G (fun t ht=>(Below.cell (Up.al o (Up.rfl' W)) (p:=⟨blk,off+t,none⟩) hb).trans (hc t ht)) j i hj hi hsz
 go_enter Tryz.func237,Tryz.ntmps237
 go_wp2_with (go_at_fn 234; refine (hl _).mono ?_; rintro e w' ⟨rfl,q,rfl⟩)
 go_ret
 exact ⟨rfl,_,q,rfl⟩
theorem SW.cellO {w0 W:World} {blk off:Nat} {dk:Array Int} (h:SW (Value.int .i64) w0 blk off dk W) {b o:Nat} (hb:b<w0.heap.size) (hne:b≠blk):W.cell? ⟨b,o,none⟩=w0.cell? ⟨b,o,none⟩:=by
 obtain ⟨n,os,rfl⟩:=h
 unfold sortWorld
 rw [cell?_grow _ _ _ (by simpa using hb),cell?_putRow_other _ _ _ _ _ _ (.inl hne)]
 rfl
def gtI (x y:Int):Bool:=decide (y<x)
theorem ZsV (blk off c b bR:Nat) (d:Array Int) (w:World) (hH:Holds (Value.int .i64) w blk off d) (hblk:blk<w.heap.size) (hR:w.cell? ⟨bR,0,none⟩=some (.iface 189 (SV blk off d.size c))) (hRb:bR<w.heap.size) (hne:bR≠blk)
 (hab:0≤b) (hb:b≤d.size) (hsz:d.size<4611686018427387904):
 Calls Tryz.prog 202 #[.iface 204 (RP bR),.int .i64 0,.int .i64 b] w fun e w'=>e=.returned (.tuple #[])∧SW (Value.int .i64) w blk off (Sort.insertionSort gtI d 0 b) w':=by
 have eL:∀ args w,(callFunc 237 args).run Tryz.prog w=.ok (.enter 237 args) w:=enters_of Tryz.func237 (by kernel_rfl) rfl
 have eS:∀ args w,(callFunc 236 args).run Tryz.prog w=.ok (.enter 236 args) w:=enters_of Tryz.func236 (by kernel_rfl) rfl
 go_enter Tryz.func202,Tryz.ntmps202
 go_wp2
 go_loopw [6] (fun vi wr=>∃ (i:Nat) (dk:Array Int),vi=.int .i64 i∧0<i∧i≤b+1∧dk.size=d.size∧SW (Value.int .i64) w blk off dk wr∧
  insOuter gtI 0 b i dk=insOuter gtI 0 b (0+1) d) (fun vi _=>b+1-(intOf vi).toNat)
 case atStart=>exact ⟨1,d,by go_num,by omega,by omega,rfl,SW.start hH,rfl⟩
 case round=>
  obtain ⟨i,dk,rfl,hai,hib,hsk,hwr,hO⟩:=hrel
  have HO:Hid (insOuter gtI 0 b i dk=insOuter gtI 0 b (0+1) d):=hO
  clear hO
  go_wp2
  ·go_loopw [7] (fun vj wr2=>∃ (j:Nat) (dj:Array Int),vj=.int .i64 j∧j≤i∧dj.size=d.size∧SW (Value.int .i64) w blk off dj wr2∧
    insInner gtI 0 j dj=insInner gtI 0 i dk) (fun vj _=>(intOf vj).toNat)
   case atStart=>exact ⟨i,dk,rfl,Nat.le_refl _,hsk,hwr,rfl⟩
   case round=>
    obtain ⟨j,dj,rfl,hji,hsj,hw2,hI⟩:=hrel
    have hlt:i<b:=by assumption
    have HW:Hid (SW (Value.int .i64) w blk off dj wr):=hw2
    have HI:Hid (insInner gtI 0 j dj=insInner gtI 0 i dk):=hI
    have hHj:=hw2.holds hblk hH hsj
    have hbw:=hw2.lt hblk
    have hRw:wr.cell? ⟨bR,0,none⟩=some (.iface 189 (SV blk off d.size c)):=(SW.cellO hw2 hRb hne).trans hR
    clear hw2 hI
    have out:(j≤0∨gtI dj[j]! dj[j-1]! = false)→∀ W,SW (Value.int .i64) w blk off dj W→∃ (i':Nat) (dk':Array Int),Value.int .i64 ((i:Int)+1)=.int .i64 (i':Nat)∧0<i'∧i'≤b+1∧dk'.size=d.size∧
     SW (Value.int .i64) w blk off dk' W∧insOuter gtI 0 b i' dk'=insOuter gtI 0 b (0+1) d:=fun hs W hW=>
     ⟨i+1,dj,by go_num,by omega,by omega,hsj,hW,
      by rw [← HO.out,insOuter_go _ _ _ _ _ hlt,← HI.out,insInner_stop _ _ _ _ hs]⟩
    have OUT:Hid _:=out
    clear out
    by_cases hja:0<j
    ·have mL:=ZrD wr bR _ hRw
     simp at mL
     have hl:=ZrB blk off c d.size wr (fun t=>dj[t]!) (fun t ht=>(hHj t (by omega)).1) hbw j (j-1) (by omega) (by omega) hsz
     rw [show (((j-1:Nat):Int))=(j:Int)-1 by omega] at hl
     have W2:Hid (∀ o q,SW (Value.int .i64) w blk off dj ((wr.alloc o).drewN q)):=fun o q=>(HW.out.alloc o).drewN q
     have mS : ∀ o q, Sem.run Tryz.prog (method (Tryz.prog.types.size + 100) 204 (RP bR) "Swap") ((wr.alloc o).drewN q) = .ok (236, SV blk off d.size c) ((wr.alloc o).drewN q) := fun o q =>
      Zp8 ((wr.alloc o).drewN q) bR 236 (SV blk off d.size c) "Swap" ((SW.cellO (W2.out o q) hRb hne).trans hR) (by kernel_rfl) (ZsX _ _ _ _ _)
     simp at mS
     have hsw:∀ o q,Calls Tryz.prog 236 #[SV blk off d.size c,.int .i64 j,.int .i64 ((j-1:Nat):Int)] ((wr.alloc o).drewN q) fun e w'=>e=.returned (.tuple #[])∧SW (Value.int .i64) w blk off (swp dj j (j-1)) w':=fun o q=>by
      have hh:=(W2.out o q).holds hblk hH hsj
      refine (Zra blk off c d.size _ _ _ j (j-1) (by omega) (by omega) hsz (hh j (by omega)).1 (hh (j-1) (by omega)).1 (hh j (by omega)).2 (hh (j-1) (by omega)).2).mono ?_
      rintro e w' ⟨rfl,q',rfl⟩
      exact ⟨rfl,((W2.out o q).swap hblk j (j-1) (by omega) (by omega)).drewN q'⟩
     rw [show (((j-1:Nat):Int))=(j:Int)-1 by omega] at hsw
     change Calls _ _ _ _ fun e w'=>e=.returned (.bool (gtI dj[j]! dj[j-1]!))∧_ at hl
     cases hlv:gtI dj[j]! dj[j-1]! with
     | true=>
      rw [hlv] at hl
      go_wp2_with (first
       | (go_at_fn 237; refine hl.mono ?_; rintro e w' ⟨rfl,o,q,rfl⟩)
       | (go_at_fn 236; refine (hsw _ _).mono ?_; rintro e w' ⟨rfl,hS⟩))
      go_roundw
      case rel=>
       (repeat apply Exists.intro)
       refine ⟨⟨j-1,swp dj j (j-1),by congr 1 <;> omega,by omega,by rw [size_swp]; exact hsj,hS,?_⟩,by rw [decide_eq_true hlt,show ((j-1:Nat):Int)=(j:Int)-1 by omega]⟩
       rw [← HI.out,insInner_go gtI 0 j dj hja hlv]
      case measure=>simp [intOf]; omega
     | false=>
      rw [hlv] at hl
      go_wp2_with (go_at_fn 237; refine hl.mono ?_; rintro e w' ⟨rfl,o,q,rfl⟩)
      go_roundw
      case rel=>exact OUT.out (Or.inr hlv) _ (W2.out o q)
      case measure=>simp [intOf]; omega
    ·go_wp2
     go_roundw
     case rel=>exact OUT.out (Or.inl (by omega)) _ HW.out
     case measure=>simp [intOf]; omega
  ·have hge:¬ i<b:=by assumption
   go_end0
   exact ⟨rfl,by unfold Sort.insertionSort; rw [← HO.out,insOuter_stop _ _ _ _ _ hge]; exact hwr⟩
end Go.Proofs.YtkcnllbmpbhndaaGreat
namespace Go.Proofs.YtkcnllbmpbhndaaGreat
set_option maxRecDepth 10000
open Go.RowKit Go.Lib Go.Sort
set_option linter.unusedVariables false
set_option linter.unusedSimpArgs false
set_option maxRecDepth 100000
set_option maxHeartbeats 4000000
theorem pdq3 (blk off c lim bR:Nat) (d:Array Int) (w:World) (hH:Holds (Value.int .i64) w blk off d) (hblk:blk<w.heap.size) (hd:d.size=3) (hR:w.cell? ⟨bR,0,none⟩=some (.iface 189 (SV blk off d.size c))) (hRb:bR<w.heap.size) (hne:bR≠blk):
 Calls Tryz.prog 195 #[.iface 204 (RP bR),.int .i64 0,.int .i64 3,.int .i64 lim] w fun e w'=>e=.returned (.tuple #[])∧SW (Value.int .i64) w blk off (Sort.insertionSort gtI d 0 3) w':=by
 have hi:=ZsV blk off c 3 bR d w hH hblk hR hRb hne (by omega) (by omega) (by omega)
 rw [show ((3:Nat):Int)=3 from rfl] at hi
 clear hH hR
 go_enter Tryz.func195,Tryz.ntmps195
 go_wp2
 go_loopw [1,2] (fun v1 v2 wr=>v1=.int .i64 0∧v2=.int .i64 3∧wr=w) (fun _ _ _=>0)
 case atStart=>exact ⟨rfl,rfl,rfl⟩
 case round=>
  obtain ⟨rfl,rfl,rfl⟩:=hrel
  go_wp2_with (go_at_call 202; refine hi.mono ?_; rintro e w' ⟨rfl,hS⟩)
  (try simp only [Exit.inBlock,Exit.then])
  refine bodyPost_ret (results_none rfl _ _ _) rfl ?_
  exact ⟨rfl,hS⟩
theorem ZrG (blk off c bR:Nat) (d:Array Int) (w:World) (hH:Holds (Value.int .i64) w blk off d) (hblk:blk<w.heap.size) (hd:d.size=3) (hR:w.cell? ⟨bR,0,none⟩=some (.iface 189 (SV blk off d.size c))) (hRb:bR<w.heap.size) (hne:bR≠blk):
 Calls Tryz.prog 182 #[.iface 204 (RP bR)] w fun e w'=>e=.returned (.tuple #[])∧SW (Value.int .i64) w blk off (Sort.insertionSort gtI d 0 3) w':=by
 have mN := Zp8 w bR 233 (SV blk off d.size c) "Len" hR (by kernel_rfl) (Zt5 _ _ _ _ _)
 simp at mN
 have eN:∀ args w,(callFunc 233 args).run Tryz.prog w=.ok (.enter 233 args) w:=enters_of Tryz.func233 (by kernel_rfl) rfl
 have hN:=ZsY blk off c d.size w
 have hL:=Tryz.bits_Len 3 w (by omega) (by omega)
 have hp:=fun lim=>pdq3 blk off c lim bR d w hH hblk hd hR hRb hne
 rw [hd] at mN hN
 rw [show ((3:Nat):Int)=3 from rfl] at hN
 clear hH hR
 go_enter Tryz.func182,Tryz.ntmps182
 go_wp2_with (first
  | (go_at_fn 233; refine hN.mono ?_; rintro e w' ⟨rfl,rfl⟩)
  | (go_at_call 181; refine hL.mono ?_; rintro e w' ⟨rfl,rfl⟩)
  | (go_at_call 195; refine (hp _).mono ?_; rintro e w' ⟨rfl,hS⟩))
 all_goals first
  | (exfalso; omega)
  | (go_end0; exact ⟨rfl,hS⟩)
end Go.Proofs.YtkcnllbmpbhndaaGreat
namespace Go.Proofs.YtkcnllbmpbhndaaGreat
set_option maxRecDepth 10000
open Go.RowKit
structure ElT (P:Program) (t e:TypeId) (k bytes:Nat):Prop where
 ht:P.underlying t=some (.slice e)
 info:∃ i z,P.info? e=some i∧i.zero=some z∧i.size=k∧i.bytes=bytes∧z.cells.size=k
theorem ElT.mk' {P:Program} {t e:TypeId} {k bytes:Nat} {z:Value} (ht:P.underlying t=some (.slice e)) (h:(P.info? e).map (fun i=>(i.zero,i.size,i.bytes))=some (some z,k,bytes)) (hz:z.cells.size=k):ElT P t e k bytes:=by
 obtain ⟨i,h1,h2,h3,h4⟩:=info_parts h
 exact ⟨ht,i,z,h1,h2,h3,h4,hz⟩
theorem Own.form {α:Type} [Enc α] {w:World} {B E:Nat} {v:Value} {xs:List α} (h:Own w B E v xs):∃ A c,v=.slice A xs.length c∧xs.length≤c∧c≤maxLen:=by
 rcases h.2 with ⟨hv,h0⟩ | ⟨g,cap,cur,hv,_,_,hnc,hcm,_⟩
 ·exact ⟨none,0,by rw [hv,h0],by omega,by unfold maxLen; omega⟩
 ·exact ⟨_,cap,hv,hnc,hcm⟩
theorem Own.nil_ {α:Type} [Enc α] (w:World) (B E:Nat):Own w B E (.slice none 0 0) ([]:List α):=World.ownsRow_nil _ _ _ _
theorem Own.empty {α:Type} [Enc α] (w:World) (B E c:Nat) (cur:Array Value) (hB:B≤w.heap.size) (hm:c≤maxLen) (hs:cur.size=c*Enc.k α):
 Own (w.alloc (.cells cur E)) B E (.slice (some ⟨w.heap.size,0,none⟩) 0 c) ([]:List α):=World.ownsRow_made w cur c hB hm hs
theorem Own.more {α:Type} [Enc α] {w:World} {B B' E:Nat} {v:Value} {xs:List α} (h:Own w B E v xs) (hB:B'≤B):Own w B' E v xs:=by
 refine ⟨h.1,?_⟩
 rcases h.2 with h2 | ⟨g,cap,cur,hv,hb,r⟩
 ·exact .inl h2
 ·exact .inr ⟨g,cap,cur,hv,by omega,r⟩
theorem Own.grown {α:Type} [Enc α] {w w':World} {B E:Nat} {v:Value} {xs:List α} {row:Option Nat} (h:Own w B E v xs) (hg:w.grownBy w' row) (hne:v.ownBlock=none∨v.ownBlock≠row):Own w' B E v xs:=
 World.ownsRow.kept h hg hne
theorem Rd.one {α:Type} [Enc α] (w:World) (T:TypeId) (x:α) (B:Nat) (hB:w.heap.size<B):Rd (w.alloc (.cells (Enc.cells x).toArray T)) B (some ⟨w.heap.size,0,none⟩) [x]:=by
 intro _
 refine ⟨w.heap.size,0,rfl,hB,fun j u hu=>?_⟩
 rw [Zq0] at hu
 rw [Nat.zero_add,cell_of_row _ _ j _ T (0,0) (heap_alloc_new w _)]
 simpa using hu
def Zeh (w0 w:World) (B E k:Nat) (g n cap m:Nat) (ys:List Value):Prop:=
 ∃ cs:List Value,w.ownsRow B E k (.slice (some ⟨g,0,none⟩) n cap) n cs∧cs.take m=ys.take m∧w0.grownBy w (some g)
theorem Zeh.start {w:World} {B E k g n cap:Nat} {cs ys:List Value} (h:w.ownsRow B E k (.slice (some ⟨g,0,none⟩) n cap) n cs):Zeh w w B E k g n cap 0 ys:=
 ⟨cs,h,by simp,⟨rfl,rfl,rfl,Nat.le_refl _,fun _ _ _=>rfl⟩⟩
theorem Zeh.cell {w0 w:World} {B E k g n cap m:Nat} {ys:List Value} (h:Zeh w0 w B E k g n cap m ys) {j:Nat} (hj:j<n*k):∃ u,w.cell? ⟨g,j,none⟩=some u:=by
 obtain ⟨cs,ho,_⟩:=h
 have hl:cs.length=n*k:=ho.1
 exact ⟨cs[j]'(by omega),by rw [ho.cellAt j hj]; exact List.getElem?_eq_getElem _⟩
theorem Zeh.frozen {w0 w:World} {B E k g n cap m:Nat} {ys:List Value} (h:Zeh w0 w B E k g n cap m ys) (j:Nat):w.frozen? ⟨g,j,none⟩=false:=by
 obtain ⟨cs,ho,_⟩:=h
 exact ho.frozenAt j
theorem ZjU {a b c:World} {row:Option Nat} (h:a.grownBy b row) (k:b.grownBy c row):a.grownBy c row:=
 ⟨k.os.trans h.os,k.tape.trans h.tape,k.output.trans h.output,Nat.le_trans h.size k.size,fun i hi hne=>(k.block i (Nat.lt_of_lt_of_le hi h.size) hne).trans (h.block i hi hne)⟩
theorem Zeh.set1 {w0 w:World} {B E k g n cap m:Nat} {ys:List Value} {v:Value} (h:Zeh w0 w B E k g n cap m ys) (hm:m<n*k) (hy:ys[m]?=some v):
 Zeh w0 (w.setCell ⟨g,m,none⟩ v) B E k g n cap (m+1) ys:=by
 obtain ⟨cs,ho,ht,hg⟩:=h
 have hl:cs.length=n*k:=ho.1
 obtain ⟨h1,h2⟩:=ho.stored m v
 exact ⟨cs.set m v,h1,Zg7 (by omega) hy ht,ZjU hg h2⟩
theorem Zeh.drewN {w0 w:World} {B E k g n cap m:Nat} {ys:List Value} (h:Zeh w0 w B E k g n cap m ys) (q:Nat):Zeh w0 (w.drewN q) B E k g n cap m ys:=by
 obtain ⟨cs,ho,ht,hg⟩:=h
 exact ⟨cs,ho,ht,⟨hg.os,hg.tape,hg.output,hg.size,hg.block⟩⟩
theorem Zeh.own {α:Type} [Enc α] {w0 w:World} {B E g n cap:Nat} {ys:List α} (h:Zeh w0 w B E (Enc.k α) g n cap (n*Enc.k α) (flat ys)) (hn:ys.length=n):Own w B E (.slice (some ⟨g,0,none⟩) n cap) ys∧w0.grownBy w (some g):=by
 obtain ⟨cs,ho,ht,hg⟩:=h
 have hl:cs.length=n*Enc.k α:=ho.1
 have e1:(flat ys).take (n*Enc.k α)=flat ys:=List.take_of_length_le (by rw [ZfI,hn]; exact Nat.le_refl _)
 rw [e1,List.take_of_length_le (by omega)] at ht
 subst ht
 refine ⟨?_,hg⟩
 unfold Own
 rw [hn]
 exact ho
theorem ZqD (b o j:Nat):(⟨b,o,none⟩:Addr).add j=⟨b,o+j,none⟩:=by unfold Addr.add; split <;> simp_all
theorem Zg3 {α:Type} [Enc α] {P:Program} (w:World) {t ty e:Nat} {i:TypeInfo} (ht:P.underlying t=some (.slice e)) (hi:P.info? e=some i) {base:Nat} {v:Value} {ys:List α} (hown:Own w base e v ys) (c:Nat):
 (Builtin.append_ #[t,t] ty #[v,.slice none 0 c]).run P w=.ok v w:=by
 rcases hown.2 with ⟨rfl,h0⟩ | ⟨g,cap,cur,rfl,_,_,hnc,_⟩
 ·simp [Builtin.append_,run_underlying ht,sizeOf,typeInfo,hi,Builtin.lenOf,Builtin.firstCells]
 ·simp [Builtin.append_,run_underlying ht,sizeOf,typeInfo,hi,Builtin.lenOf,Builtin.firstCells,hnc,storeCells]
theorem Zkf {α:Type} [Enc α] {P:Program} (w:World) {t ty e bytes:Nat} (T:ElT P t e (Enc.k α) bytes) {base:Nat} {v:Value} {ys:List α} (hown:Own w base e v ys)
 {B:Nat} {A:Option Addr} {c:Nat} {xs:List α} (hr:Rd w B A xs) (hbytes:(ys.length+xs.length)*bytes≤140737488355328) (h63:ys.length+xs.length≤maxLen) (hbase:base≤w.heap.size):
 ∃ v' w',(Builtin.append_ #[t,t] ty #[v,.slice A xs.length c]).run P w=.ok v' w'∧Own w' base e v' (ys++xs)∧w.grownBy w' v.ownBlock∧(v'.ownBlock=v.ownBlock∨v'.ownBlock=some w.heap.size):=by
 obtain ⟨i,z,hi,hz,hs,hb,hzs⟩:=T.info
 cases A with
 | none=>
  have hx:xs=[]:=by
   rcases Classical.em (xs=[]) with h | h
   ·exact h
   ·obtain ⟨_,_,h',_⟩:=hr h
    cases h'
  subst hx
  have hrun:=Zg3 (P:=P) w (ty:=ty) T.ht hi hown c
  exact ⟨v,w,by simpa using hrun,by simpa using hown,⟨rfl,rfl,rfl,Nat.le_refl _,fun _ _ _=>rfl⟩,.inl rfl⟩
 | some ad=>
  have hnews:∀ j u,(flat xs)[j]?=some u→w.cell? (ad.add j)=some u:=by
   intro j u hu
   have hne:xs≠[]:=by rintro rfl; simp [flat] at hu
   obtain ⟨b,off,hA',_,hc⟩:=hr hne
   injection hA' with hA'
   subst hA'
   rw [ZqD]
   exact hc j u hu
  obtain ⟨v',w',hrun,h2,h3,_,h5⟩:=run_append_own_at (P:=P) w base t ty e i z (Enc.k α) bytes T.ht hi hz hs hb hzs Enc.pos v ys.length (flat ys) hown ad xs.length c (flat xs) (ZfI xs) hnews (ZkO xs) h63 hbytes hbase
  refine ⟨v',w',hrun,?_,h3,h5⟩
  have e1:(ys++xs).length=ys.length+xs.length:=List.length_append
  unfold Own
  rw [e1,ZlT]
  exact h2
theorem Up.grown' {α:Type} [Enc α] {w0 w w':World} {base e:Nat} {v:Value} {ys:List α} (h:Up w0 w) (hg:w.grownBy w' v.ownBlock) (hown:Own w base e v ys) (hb:w0.heap.size≤base):Up w0 w':=
 Below.grown h hg h.size (fun k hk=>Nat.le_trans hb (World.ownsRow.lt hown k hk).1)
theorem ZlH {α:Type} [Enc α] {P:Program} {w:World} {o:Oper} {a:Act} {K:Act→World→Prop} {Q:Exit→Act→World→Prop} {t e bytes:Nat} (T:ElT P t e (Enc.k α) bytes)
 (s x:Operand) (ho:o.op=.call { callee:=.builtin .append,args:=#[s,x],argTypes:=#[t,t] })
 {base:Nat} {v:Value} {ys:List α} (hs:a.eval s=v) (hown:Own w base e v ys)
 {B:Nat} {A:Option Addr} {c:Nat} {xs:List α} (n:Nat) (hx:a.eval x=.slice A n c) (hn:n=xs.length) (hr:Rd w B A xs)
 (hbytes:(ys.length+xs.length)*bytes≤140737488355328) (h63:ys.length+xs.length≤maxLen) (hbase:base≤w.heap.size)
 (h:∀ v' w',Own w' base e v' (ys++xs)→w.grownBy w' v.ownBlock→(v'.ownBlock=v.ownBlock∨v'.ownBlock=some w.heap.size)→(∀ w0,w0.heap.size≤base→Up w0 w→Up w0 w')→K (a.put o.dst v') w'):
 o.wp P a w K Q:=by
 subst hn
 obtain ⟨v',w',hrun,h2,h3,h4⟩:=Zkf (P:=P) w (ty:=o.type) (c:=c) T hown hr hbytes h63 hbase
 unfold Oper.wp execOp
 simp only [ho,resolve,invoke,builtin,Sem.run_bind,Sem.run_pure,Result.andThen_ok,List.map_toArray,List.map_cons,List.map_nil,hs,hx,hrun]
 exact h v' w' h2 h3 h4 fun w0 hb hu=>Up.grown' hu h3 hown hb
theorem ZB {α:Type} [Enc α] {P:Program} {w:World} {ops:Array Oper} {rest:List Oper} {o:Oper} {a:Act} {Q:Exit→Act→World→Prop} {t e bytes:Nat} (T:ElT P t e (Enc.k α) bytes)
 (hgd:o.guard=none) (s x:Operand) (ho:o.op=.call { callee:=.builtin .append,args:=#[s,x],argTypes:=#[t,t] })
 {base:Nat} {v:Value} {ys:List α} (hs:a.eval s=v) (hown:Own w base e v ys)
 {B:Nat} {A:Option Addr} {c:Nat} {xs:List α} (n:Nat) (hx:a.eval x=.slice A n c) (hn:n=xs.length) (hr:Rd w B A xs)
 (hbytes:(ys.length+xs.length)*bytes≤140737488355328) (h63:ys.length+xs.length≤maxLen) (hbase:base≤w.heap.size)
 (h:∀ v' w',Own w' base e v' (ys++xs)→w.grownBy w' v.ownBlock→(v'.ownBlock=v.ownBlock∨v'.ownBlock=some w.heap.size)→(∀ w0,w0.heap.size≤base→Up w0 w→Up w0 w')→wpList P ops Q rest (a.put o.dst v') w'):
 wpList P ops Q (o::rest) a w:=
 wpList_plain hgd fun _ hK=>ZlH T s x ho hs hown n hx hn hr hbytes h63 hbase fun v' w' h2 h3 h4 h5=>hK _ _ (h v' w' h2 h3 h4 h5)
end Go.Proofs.YtkcnllbmpbhndaaGreat
namespace Go.Proofs.YtkcnllbmpbhndaaGreat
set_option maxRecDepth 10000
open Go.RowKit Go.Lib Go.Sort
set_option linter.unusedVariables false
set_option linter.unusedSimpArgs false
set_option maxRecDepth 100000
set_option maxHeartbeats 4000000
theorem ZsK:ElT Tryz.prog 23 3 (Enc.k Int) 8:=ElT.mk' (z:=.int .i64 0) Tryz.underlying23 (by kernel_rfl) rfl
theorem Zhh (ls:List Int):flat ls=ls.map (Value.int .i64):=by
 induction ls with
 | nil=>rfl
 | cons x xs ih=>rw [Ze7,ih]; rfl
theorem own3 {w:World} {B:Nat} {v:Value} {xs:List Int} (h:Own w B 3 v xs) (hl:xs.length=3):∃ g cap cur,v=.slice (some ⟨g,0,none⟩) 3 cap∧B≤g∧w.heap[g]?=some (.cells cur 3 (0,0))∧3≤cap∧cap≤maxLen∧cur.size=cap*1∧cur.toList.take 3=xs.map (Value.int .i64):=by
 rcases h.2 with ⟨_,h0⟩ | ⟨g,cap,cur,hv,hB,hg,hnc,hcm,hcs,ht⟩
 ·omega
 ·rw [hl] at hv hnc ht
  rw [Zhh] at ht
  exact ⟨g,cap,cur,hv,hB,hg,hnc,hcm,hcs,ht⟩
theorem ZrC (W:World) (sv:Value):Calls Tryz.prog 183 #[.iface 189 sv] W fun e w'=>e=.returned (.iface 204 (RP W.heap.size))∧w'=W.alloc (.cells #[.iface 189 sv] 206):=by
 go_enter Tryz.func183,Tryz.ntmps183
 go_wp2
 go_ret
 exact ⟨rfl,rfl⟩
def srt3 (xs:List Int):List Int:=(Sort.insertionSort gtI xs.toArray 0 3).toList
theorem Zg4 (lt:Int→Int→Bool) (a:Nat):∀ (j:Nat) (d:Array Int),(insInner lt a j d).size=d.size
 | 0,d=>rfl
 | j+1,d=>by
  unfold insInner
  split
  ·rw [Zg4 lt a j,size_swp]
  ·rfl
theorem Zg5 (lt:Int→Int→Bool) (a b:Nat):∀ (n i:Nat) (d:Array Int),b-i≤n→(insOuter lt a b i d).size=d.size
 | 0,i,d,h=>by rw [insOuter,if_neg (by omega)]
 | n+1,i,d,h=>by
  rw [insOuter]
  split
  ·rw [Zg5 lt a b n (i+1) _ (by omega),Zg4]
  ·rfl
theorem ZnH (xs:List Int):(srt3 xs).length=xs.length:=by
 unfold srt3 Sort.insertionSort
 rw [Array.length_toList,Zg5 _ _ _ 3 _ _ (by omega)]
 simp
theorem Zkj (A:Option Addr) (xs:List Int) (c:Nat) (w:World) (hr:Rd w w.heap.size A xs) (hl:xs.length=3):
 Calls Tryz.prog 178 #[.slice A 3 c] w fun e w'=>∃ v,e=.returned v∧Own w' w.heap.size 3 v (srt3 xs)∧Up w w':=by
 go_enter Tryz.func178,Tryz.ntmps178
 go_wp2_with (at_builtin; refine ZB ZsK rfl (.tmp 4) (.tmp 5) rfl (base:=w.heap.size) (ys:=[]) (by rfl) (Own.empty w _ _ 0 _ (Nat.le_refl _) (by unfold maxLen; omega) rfl) 3 (by rfl) hl.symm (hr.up (by (repeat (first | exact Up.rfl' _ | (refine Up.al _ ?_) | (refine Up.dr _ ?_) | (refine Up.dr1 ?_) | (refine Up.sc ?_ (by first | exact Nat.le_refl _ | (simp; done) | omega) _) | (refine Up.step (by assumption) ?_))))) (by simp; omega) (by unfold maxLen; simp; omega) (by first | (simp; done) | (simp; omega) | (have h_:=hB.size; omega) | (have h_:=hB.size; simp; omega)) ?_; intro v' w1 ho1 hg1 _ hu1; refine Hid.out ?_)
 refine Lib.hid ?_
 have ho:Own w1 w.heap.size 3 v' xs:=by simpa using ho1
 have hu:=hu1 w (Nat.le_refl _) (by (repeat (first | exact Up.rfl' _ | (refine Up.al _ ?_) | (refine Up.dr _ ?_) | (refine Up.dr1 ?_) | (refine Up.sc ?_ (by first | exact Nat.le_refl _ | (simp; done) | omega) _) | (refine Up.step (by assumption) ?_))))
 obtain ⟨g,cap,cur,rfl,hgB,hgh,h3,hcm,hcs,hct⟩:=own3 ho hl
 have hgl:g<w1.heap.size:=(Array.getElem?_eq_some_iff.1 hgh).1
 have hRv:=ZrC w1 (SV g 0 3 cap)
 have hg2:∀ o,(w1.alloc o).heap[g]?=some (.cells cur 3 (0,0)):=fun o=>(Below.block (Up.al o (Up.rfl' w1)) g hgl).trans hgh
 have hsz:∀ o,(w1.alloc o).heap.size=w1.heap.size+1:=fun o=>by simp
 have hS:∀ o,o=Obj.cells #[.iface 189 (SV g 0 3 cap)] 206 (0,0)→_:=fun o ho=>ZrG g 0 cap w1.heap.size xs.toArray (w1.alloc o) (holds_of_blockI (hg2 o) (by rw [hl]; exact hct)) (by rw [hsz]; omega) (by simp [hl]) (by subst ho; rw [cell_of_row _ _ 0 _ _ (0,0) (heap_alloc_new w1 _)]; simp [hl]) (by rw [hsz]; omega) (by omega)
 have hS2:=hS _ rfl
 clear hS
 go_wp2_with (first
  | (go_at_call 183; refine hRv.mono ?_; rintro e w' ⟨rfl,rfl⟩)
  | (go_at_call 182; refine hS2.mono ?_; rintro e w' ⟨rfl,hSW⟩))
 go_ret
 obtain ⟨n,os,rfl⟩:=hSW
 have hlt:(srt3 xs).length=xs.length:=ZnH xs
 have hown:=ownsRow_sortedI (n:=n) (os:=os) (ss:=xs) (ts:=srt3 xs) hlt hgB (hg2 (Obj.cells #[.iface 189 (SV g 0 3 cap)] 206 (0,0))) (by omega) hcm hcs
 refine ⟨_,rfl,?_,?_⟩
 ·unfold Own
  rw [hlt,Zhh]
  rw [hl] at hown ⊢
  unfold srt3 at hown ⊢
  exact hown
 ·have hgr:=grownBy_sortedI (w:=w1.alloc (Obj.cells #[.iface 189 (SV g 0 3 cap)] 206 (0,0))) (g:=g) (n:=n) (os:=os) (Sort.insertionSort gtI xs.toArray 0 3)
  have hu2:=Up.al (Obj.cells #[.iface 189 (SV g 0 3 cap)] 206 (0,0)) hu
  exact ⟨hgr.os.trans hu2.os,hgr.tape.trans hu2.tape,hgr.output.trans hu2.output,Nat.le_trans hu2.size hgr.size,fun b hb=>(hgr.block b (Nat.lt_of_lt_of_le hb hu2.size) (by simp; omega)).trans (hu2.block b hb)⟩
end Go.Proofs.YtkcnllbmpbhndaaGreat
namespace Go.Proofs.YtkcnllbmpbhndaaGreat
set_option maxRecDepth 10000
open Go.RowKit
set_option linter.unusedVariables false
set_option linter.unusedSimpArgs false
theorem Zk3 {α:Type} [Enc α] {c:α→List PV} {T:TypeId} {S:Nat→Prop} {β:Nat→Option Blk} {w w':World} {v:Value} {ys:List α} {ω:Nat→Key→Prop} (hk:Ok w (own0 β) (E1 S β 0 ω) w []) (ho:Own w' w.heap.size T v ys) (hu:Up w w')
 (hc:∀ (x:α),(c x).length=Enc.k α∧∀ (j:Nat) (p:PV),(c x)[j]?=some p→∃ u,(Enc.cells x)[j]?=some u∧u.oneCell'=true∧∀ (w:World) (E:Env),Rep w E p u):
 ∃ E',Ok w (own0 β) E' w' [some ⟨T,Enc.k α,ys.map c⟩]∧(∀ b,S b→E'.S b)∧(∀ b,E'.S b→S b∨w.heap.size≤b∨own0 β b)∧((∀ l B,l<0→E'.β l=some B→β l=some B)∧∀ b q,E'.ω b q→ω b q∨w.heap.size≤b∨own0 β b)∧Rep w' E' (.ms 0) v:=by
 have hesl:∀ (i:Nat) (cs:List PV),(ys.map c)[i]?=some cs→cs.length=Enc.k α:=by
  intro i cs hi
  rw [List.getElem?_map] at hi
  obtain ⟨y,_,rfl⟩:=Option.map_eq_some_iff.1 hi
  exact (hc y).1
 have key:∀ (B:Blk),v=B.sv→v.oneCell'=true→(B.z=false→w.heap.size≤B.b∧B.b<w'.heap.size)→(∀ E,ZcH w' E ⟨T,Enc.k α,ys.map c⟩ B)→
  ∃ E',Ok w (own0 β) E' w' [some ⟨T,Enc.k α,ys.map c⟩]∧(∀ b,S b→E'.S b)∧(∀ b,E'.S b→S b∨w.heap.size≤b∨own0 β b)∧((∀ l B,l<0→E'.β l=some B→β l=some B)∧∀ b q,E'.ω b q→ω b q∨w.heap.size≤b∨own0 β b)∧Rep w' E' (.ms 0) v:=by
  intro B hv h1 hB hb
  obtain ⟨h2,_⟩:=hk.new (ν:=0) (fun h=>absurd h (Nat.not_lt_zero 0)) ⟨T,Enc.k α,ys.map c⟩ B hu.os hu.tape hu.output hu.size (fun b hb=>hu.block b hb) hB (fun _=>hb _)
  refine ⟨_,h2,fun b h=>h,fun b h=>.inl h,⟨fun l B h=>absurd h (Nat.not_lt_zero l),fun _ _ h=>.inl h⟩,.ms 0 v (.inl rfl) h1 fun B' hB'=>?_⟩
  have:B'=B:=by simpa [Env.add,eq_comm] using hB'
  rw [this]; exact hv
 rcases ho.2 with ⟨hv,h0⟩ | ⟨g,cap,cur,hv,hB,hg,hnc,hcm,hcs,ht⟩
 ·have hy:ys=[]:=List.length_eq_zero_iff.1 h0
  subst hy
  exact key ⟨0,0,0,Enc.k α,T,true⟩ (by rw [hv]; rfl) (by rw [hv]; rfl) (fun h=>by cases h) fun E=>⟨rfl,rfl,rfl,Enc.pos,Nat.le_refl _,Nat.zero_le _,hesl,fun _=>rfl,fun h=>(by cases h),fun _ h=>by cases h⟩
 ·refine key ⟨g,cap,ys.length,Enc.k α,T,false⟩ (by rw [hv]; rfl) (by rw [hv]; rfl) (fun _=>⟨hB,(Array.getElem?_eq_some_iff.1 hg).1⟩) fun E=>⟨rfl,by simp,rfl,Enc.pos,hnc,hcm,hesl,(fun h=>by cases h),fun _=>⟨cur,hg,hcs,fun i cs j p hi hj=>?_⟩,fun _ h=>by cases h⟩
  rw [List.getElem?_map] at hi
  obtain ⟨y,hy,rfl⟩:=Option.map_eq_some_iff.1 hi
  obtain ⟨hl,hcc⟩:=hc y
  obtain ⟨u,hu1,hu2,hu3⟩:=hcc j p hj
  refine ⟨u,?_,hu2,hu3 _ _⟩
  have hf:=ZjS hy hu1
  have hlt:=(List.getElem?_eq_some_iff.1 hf).1
  rw [ZfI] at hlt
  have:=congrArg (fun l:List Value=>l[i*Enc.k α+j]?) ht
  have h2:(cur.toList.take (ys.length*Enc.k α))[i*Enc.k α+j]?=(flat ys)[i*Enc.k α+j]?:=this
  rw [List.getElem?_take_of_lt hlt,Array.getElem?_toList,hf] at h2
  exact h2
end Go.Proofs.YtkcnllbmpbhndaaGreat
namespace Go.Proofs.YtkcnllbmpbhndaaGreat
set_option maxRecDepth 10000
open Go.RowKit Go.Lib
set_option linter.unusedVariables false
set_option linter.unusedSimpArgs false
def ZcL (l:List Int):Option (List Int):=if l.length=3 then some (srt3 l) else none
theorem Zth {w:World} {S:Nat→Prop} {xs:List Int} {x:Value} (hsz:∀ b,S b→b<w.heap.size) (h:RepC w S (.sl (xs.map cInt)) x):∃ A c,x=.slice A xs.length c∧xs.length≤c∧Rd w w.heap.size A xs:=by
 generalize hq:PV.sl (xs.map cInt)=q at h
 cases h with
 | v x h=>cases hq
 | ud=>cases hq
 | un=>cases hq
 | rp=>cases hq
 | fn=>cases hq
 | nil A c=>
  have:xs=[]:=by simpa using hq
  exact ⟨A,c,by rw [this]; rfl,by rw [this]; simp,by rw [this]; exact Rd.nil_⟩
 | sl es b off k c u hS hkp hnc hm hes hcc h1 hrr=>
  obtain rfl:xs.map cInt=es:=by simpa using hq
  refine ⟨_,c,by simp,by simpa using hnc,fun hne=>⟨b,off,rfl,hsz b hS,fun j u' hu'=>?_⟩⟩
  have hpos:0<xs.length:=List.length_pos_iff.2 hne
  have hk1:k=1:=(hes 0 (cInt xs[0]) (by simp [hpos])).symm
  subst hk1
  rw [Zhh] at hu'
  rw [List.getElem?_map] at hu'
  obtain ⟨y,hy,rfl⟩:=Option.map_eq_some_iff.1 hu'
  have hj:=(List.getElem?_eq_some_iff.1 hy).1
  have e1:(xs.map cInt)[j]?=some (cInt y):=by rw [List.getElem?_map,hy]; rfl
  have hc:=hcc j _ 0 (vi y) e1 rfl
  have hz:=hrr j _ 0 (vi y) e1 rfl
  have hz':u j 0=.int .i64 y:=by
   generalize hp:u j 0=z at hz
   cases hz with
   | v _ _=>rfl
  rw [hz'] at hc
  rw [show off+j=off+j*1+0 by omega]
  exact hc
theorem Zhm (l:List Int) {r:List Int} (H:ZcL l=some r):ZdG Tryz.prog 178 [.sl (l.map cInt)] [] (.ms 0) [some ⟨.of 3,1,r.map cInt⟩]:=by
 unfold ZcL at H
 split at H
 case isFalse=>cases H
 rename_i hl3
 obtain rfl:=Option.some.inj H
 intro S β w vs ω hk hl ha
 obtain ⟨x,hx0,hr⟩:=ha 0 _ rfl
 have hv:vs=#[x]:=by
  have h1:vs.size=1:=hl
  apply Array.ext (by simp [h1])
  intro i h2 h3
  have:i=0:=by omega
  subst this
  have:=(Array.getElem?_eq_some_iff.1 hx0).2
  simpa using this
 subst hv
 have hr0:RepC w S (.sl (l.map cInt)) x:=by cases hr with | c h=>exact h
 obtain ⟨A,c,rfl,hcap,hrd⟩:=Zth hk.sz hr0
 rw [hl3]
 refine (Zkj A l c w hrd hl3).mono ?_
 rintro e w' ⟨v,rfl,ho,hu⟩
 obtain ⟨E',h1,h2,h3,h4,h5⟩:=Zk3 (c:=cInt) hk ho hu (fun x=>⟨rfl,fun j p hj=>by
  cases j with
  | zero=>obtain rfl:vi x=p:=by simpa using hj
          exact ⟨_,rfl,rfl,fun w E=>.c (.v _ rfl)⟩
  | succ j=>simp [cInt] at hj⟩)
 exact ⟨v,E',rfl,h1,h2,h3,h4,h5⟩
instance (l:List Int):CT Tryz.prog (ZcL l):=⟨178,[.sl (l.map cInt)],[],fun r=>.ms 0,fun r=>[some ⟨.of 3,1,r.map cInt⟩],Zhm l⟩
end Go.Proofs.YtkcnllbmpbhndaaGreat
namespace Go.Proofs.YtkcnllbmpbhndaaGreat
set_option maxRecDepth 10000
open Go.RowKit Go.Maps Go.WideMaps
set_option linter.unusedVariables false
set_option linter.unusedSimpArgs false
instance:Enc ByteArray where
 cells x:=[.string x]
 k:=1
 len _:=rfl
 pos:=by decide
 one:=by simp [Value.oneCell']
theorem ZkP (ls:List ByteArray):flat ls=ls.map Value.string:=by
 induction ls with
 | nil=>rfl
 | cons x xs ih=>rw [Ze7,ih]; rfl
def inL (S:List ByteArray) (s:ByteArray):Bool:=S.any fun y=>decide (y=s)
theorem Zpk {S:List ByteArray} {s:ByteArray}:inL S s=true↔s∈S:=by simp [inL]
theorem Zni (S:List ByteArray) (s s':ByteArray):inL (S++[s]) s'=(inL S s' || decide (s=s')):=by simp [inL]
def dd (out:List ByteArray) (s:ByteArray):List ByteArray:=if inL out s=true then out else out++[s]
def Zdo (n:YNetwork):List ByteArray:=n.legs.flatMap fun l=>[l.from_,l.to_]
theorem Zbo {w w':World} {row:Option Nat} (h:w.grownBy w' row) {b o:Nat} (hb:b<w.heap.size) (hne:some b≠row):w'.cell? ⟨b,o,none⟩=w.cell? ⟨b,o,none⟩:=by simp [World.cell?,h.block b hb hne]
theorem Rd.oneAt {α:Type} [Enc α] (w:World) (T:TypeId) (x:α) (H:Nat) (hH:w.heap.size=H):Rd (w.alloc (.cells (Enc.cells x).toArray T)) (H+1) (some ⟨H,0,none⟩) [x]:=by
 subst hH
 exact Rd.one w T x _ (Nat.lt_succ_self _)
theorem Zha {w:World} {b o:Nat} {u:Value} {ob:Obj} (h:w.cell? ⟨b,o,none⟩=some u):(w.alloc ob).cell? ⟨b,o,none⟩=some u:=
 ((Up.al ob (Up.rfl' w)).cell (p:=⟨b,o,none⟩) (World.block_lt_of_cell? _ _ h)).trans h
def SetM (P:Program) (k e:TypeId) (w:World) (b n:Nat) (S:List ByteArray):Prop:=
 ∃ D:DataW Unit,w.ownsMap P k (plainElem P e) b n D∧IsMap D∧∀ s:ByteArray,D.atKey (.string s.data.toList) (.lit (.bool false))=.lit (.bool (inL S s))
section
variable {P:Program} {k e:TypeId} {w:World} {b n:Nat} {S:List ByteArray}
theorem SetM.made (w:World):SetM P k e (w.alloc (.map #[] 0)) w.heap.size 0 []:=
 ⟨_,World.ownsMap_made w P k _,isMap_empty,fun s=>by simp [DataW.atKey,inL]⟩
theorem SetM.kept {w':World} {row:Option Nat} (h:SetM P k e w b n S) (hg:w.grownBy w' row) (hne:some b≠row):SetM P k e w' b n S:=by
 obtain ⟨D,h1,h2⟩:=h; exact ⟨D,h1.kept hg hne,h2⟩
theorem SetM.alloc (h:SetM P k e w b n S) (o:Obj):SetM P k e (w.alloc o) b n S:=by
 obtain ⟨D,h1,h2⟩:=h; exact ⟨D,h1.alloc o,h2⟩
theorem SetM.setCell (h:SetM P k e w b n S) {a:Addr} (ha:b≠a.block) (u:Value):SetM P k e (w.setCell a u) b n S:=by
 obtain ⟨D,h1,h2⟩:=h; exact ⟨D,h1.setCell ha u,h2⟩
theorem SetM.mono (h:SetM P k e w b n S) {n':Nat} (hn:n≤n'):SetM P k e w b n' S:=by
 obtain ⟨D,h1,h2⟩:=h; exact ⟨D,h1.mono hn,h2⟩
theorem SetM.lt (h:SetM P k e w b n S):b<w.heap.size:=by obtain ⟨D,h1,_⟩:=h; exact h1.lt
theorem Zs2 {a b:Bool} (h:(DataW.lit (.bool a):DataW Unit)=.lit (.bool b)):a=b:=by simpa using h
theorem ZqJ (he:P.underlying e=some .bool) {v:Value} {z:DataW Unit × List MemPlace} (h:plainElem P e v=some z):∃ c,v=.bool c∧z=(.lit (.bool c),[]):=by
 unfold plainElem at h
 rw [he] at h
 cases v <;> simp at h
 exact ⟨_,rfl,h.symm⟩
theorem Zk (w:World) {ops:Array Oper} {rest:List Oper} {o:Oper} {a:Act} {Q:Exit→Act→World→Prop}
 (hg:o.guard=none) (m x:Operand) (t:TypeId) (hop:o.op=Op.lookup t m x false)
 (k e:TypeId) (hk:P.underlying k=some .string) (ht:P.underlying t=some (.map k e)) (he:P.underlying e=some .bool) (hz:∀ w,(zeroValue e).run P w=.ok (.bool false) w) (b n:Nat) (S:List ByteArray)
 (hm:a.eval m=.map (some b)) (hown:SetM P k e w b n S) (s:ByteArray) (hx:a.eval x=.string s) (hs:s.size≤maxLen) (c:Bool) (hc:inL S s=c)
 (hK:wpList P ops Q rest (a.put o.dst (.bool c)) w):
 wpList P ops Q (o::rest) a w:=by
 refine wpList_plain hg fun K' hK'=>?_
 subst hc
 obtain ⟨D,h1,h2,h3⟩:=hown
 obtain ⟨v,ps,hrun,hv⟩:=h1.lookup (string_keyed hk) ht (hz w) (plainElem_bool he false) (keyOf_string_mk hk hs)
 obtain ⟨c,rfl,hc⟩:=ZqJ he hv
 simp only [Prod.mk.injEq] at hc
 have hcc:c=inL S s:=Zs2 (hc.1.symm.trans (h3 s))
 subst hcc
 unfold Oper.wp
 simp [execOp,hop,hm,hx,hrun,Result.andThen]
 exact hK' _ _ hK
theorem ZC (w:World) {ops:Array Oper} {rest:List Oper} {o:Oper} {a:Act} {Q:Exit→Act→World→Prop}
 (hg:o.guard=none) (m x v:Operand) (t:TypeId) (hop:o.op=Op.mapUpdate t m x v)
 (k e:TypeId) (hk:P.underlying k=some .string) (ht:P.underlying t=some (.map k e)) (he:P.underlying e=some .bool) (b n:Nat) (S:List ByteArray)
 (hm:a.eval m=.map (some b)) (hown:SetM P k e w b n S) (hn:n<maxLen) (s:ByteArray) (hx:a.eval x=.string s) (hv:a.eval v=.bool true) (hs:s.size≤maxLen)
 (hK:∀ w',SetM P k e w' b (n+1) (S++[s])→w.grownBy w' (some b)→wpList P ops Q rest (a.put o.dst undef) w'):
 wpList P ops Q (o::rest) a w:=by
 refine wpList_plain hg fun K' hK'=>?_
 obtain ⟨D,h1,h2,h3⟩:=hown
 obtain ⟨w',hrun,r1,r2⟩:=h1.update (string_keyed hk) ht hn (keyOf_string_mk hk hs) (plainElem_bool (H:=Unit) he true)
 unfold Oper.wp
 simp [execOp,hop,hm,hx,hv,hrun,Result.andThen]
 refine hK' _ _ (hK w' ⟨_,r1,h2.put _ _,fun s'=>?_⟩ r2)
 by_cases e:s'=s
 ·subst e
  rw [atKey_put_same h2 (by simp [WideAt.IsKeyLit])]
  rw [Zni]; simp
 ·rw [atKey_put_other (by intro h; simp at h; exact e (by obtain ⟨⟨x⟩⟩:=s'; obtain ⟨⟨y⟩⟩:=s; simpa using h)),h3 s',Zni,decide_eq_false (fun h=>e h.symm),Bool.or_false]
end
end Go.Proofs.YtkcnllbmpbhndaaGreat
namespace Go.Proofs.YtkcnllbmpbhndaaGreat
set_option maxRecDepth 10000
open Go.RowKit
set_option linter.unusedVariables false
set_option linter.unusedSimpArgs false
def srtS (xs:List ByteArray):List ByteArray:=((xs.map fun b:ByteArray=>b.data.toList).mergeSort fun x y=>decide (x≤y)).map fun l=>⟨l.toArray⟩
theorem ZnI (xs:List ByteArray):(srtS xs).length=xs.length:=by simp [srtS]
end Go.Proofs.YtkcnllbmpbhndaaGreat
namespace Go.Proofs.YtkcnllbmpbhndaaGreat
set_option maxRecDepth 10000
open Go.RowKit Go.Maps Go.WideMaps Go.Sort
set_option linter.unusedVariables false
set_option linter.unusedSimpArgs false
instance:Enc YLeg where
 cells x:=[.string x.from_,.string x.to_,I x.start,I x.takes,I x.days,I x.room]
 k:=6
 len _:=rfl
 pos:=by decide
 one:=by simp [Value.oneCell',I]
theorem Rd.leg {w:World} {B:Nat} {A:Option Addr} {xs:List YLeg} {i:Nat} {x:YLeg} (h:Rd w B A xs) (hx:xs[i]?=some x):
 ∃ b off,A=some ⟨b,off,none⟩∧b<B∧w.cell? ⟨b,off+i*6,none⟩=some (.string x.from_)∧w.cell? ⟨b,off+i*6+1,none⟩=some (.string x.to_)∧w.cell? ⟨b,off+i*6+2,none⟩=some (I x.start)∧w.cell? ⟨b,off+i*6+3,none⟩=some (I x.takes)∧w.cell? ⟨b,off+i*6+4,none⟩=some (I x.days)∧w.cell? ⟨b,off+i*6+5,none⟩=some (I x.room):=by
 obtain ⟨b,off,e,hb,hc⟩:=h.at_ hx
 exact ⟨b,off,e,hb,hc 0 _ rfl,hc 1 _ rfl,hc 2 _ rfl,hc 3 _ rfl,hc 4 _ rfl,hc 5 _ rfl⟩
theorem Zq6:(Tryz.prog.info? 9).map (fun i=>(i.zero,i.size,i.bytes))=some (some (Value.string ⟨#[]⟩),1,16):=by kernel_rfl
theorem ZfQ:ElT Tryz.prog 150 9 (Enc.k ByteArray) 16:=ElT.mk' Tryz.underlying150 Zq6 rfl
theorem ZO (w:World):(zeroValue 4).run Tryz.prog w=.ok (.bool false) w:=by kernel_rfl
def nmI (legs:List YLeg) (i:Nat):List ByteArray:=(legs.take i).foldl (fun out l=>dd (dd out l.from_) l.to_) []
theorem Zrn {legs:List YLeg} {i:Nat} {x:YLeg} (hx:legs[i]?=some x):nmI legs (i+1)=dd (dd (nmI legs i) x.from_) x.to_:=by
 unfold nmI
 rw [Zgb hx]
theorem Zr9 (out:List ByteArray) (s:ByteArray):(dd out s).length≤out.length+1:=by unfold dd; split <;> simp
theorem Zpx (legs:List YLeg) (i:Nat):(nmI legs i).length≤2*i:=by
 have h:∀ (b:List YLeg) (out:List ByteArray),(b.foldl (fun out l=>dd (dd out l.from_) l.to_) out).length≤out.length+2*b.length:=by
  intro b
  induction b with
  | nil=>intro out; simp
  | cons x b ih=>
   intro out
   have h1:=ih (dd (dd out x.from_) x.to_)
   have h2:=Zr9 (dd out x.from_) x.to_
   have h3:=Zr9 out x.from_
   simp only [List.foldl_cons,List.length_cons]
   omega
 have h1:=h (legs.take i) []
 have h2:(legs.take i).length≤i:=List.length_take_le _ _
 simp only [List.length_nil] at h1
 unfold nmI
 omega
theorem Zmo (g cp n B:Nat) (zs:List ByteArray) (w:World) (ho:Own w B 9 (.slice (some ⟨g,0,none⟩) n cp) zs) (hl:n=zs.length) (hn:n≤4194304):
 Calls Tryz.prog 161 #[.slice (some ⟨g,0,none⟩) n cp] w fun e w'=>e=.returned (.tuple #[])∧Own w' B 9 (.slice (some ⟨g,0,none⟩) n cp) (srtS zs)∧w.grownBy w' (some g):=by
 subst hl
 rcases ho.2 with ⟨h0,_⟩ | ⟨g',cap',cur,hv,hB,hg,hnc,hcm,hcs,ht⟩
 ·cases h0
 ·obtain ⟨rfl,rfl⟩:g=g'∧cp=cap':=by simpa using hv
  have hss:(zs.map fun b:ByteArray=>b.data.toList).length=zs.length:=by simp
  have ht':cur.toList.take (zs.map fun b:ByteArray=>b.data.toList).length=(zs.map fun b:ByteArray=>b.data.toList).map encStr:=by
   have:=ht
   rw [show Enc.k ByteArray=1 from rfl,Nat.mul_one,ZkP] at this
   rw [hss,this,List.map_map]
   apply List.map_congr_left
   intro b _
   rfl
  have hH:=holds_of_block hg ht'
  have key:=Tryz.sort_Strings g 0 cp _ w hH (Array.getElem?_eq_some_iff.1 hg).1 (by rw [hss]; omega)
  rw [hss] at key
  refine key.mono ?_
  rintro e w' ⟨rfl,m,os,rfl⟩
  have hs:=ownsRow_sorted (n:=m) (os:=os) (ss:=zs.map fun b:ByteArray=>b.data.toList) (ts:=(zs.map fun b:ByteArray=>b.data.toList).mergeSort fun x y=>decide (x≤y)) (by simp) hB hg (by simpa using hnc) hcm hcs
  refine ⟨rfl,?_,grownBy_sorted _⟩
  unfold Own
  rw [ZnI,ZkP]
  rw [hss] at hs
  have e2:(srtS zs).map Value.string=((zs.map fun b:ByteArray=>b.data.toList).mergeSort fun x y=>decide (x≤y)).map encStr:=by
   unfold srtS; rw [List.map_map]; rfl
  rw [e2]
  exact hs
set_option maxRecDepth 100000 in
theorem Zmj (A:Option Addr) (legs:List YLeg) (n c:Nat) (v2 v3:Value) (w:World) (hr:Rd w w.heap.size A legs) (hl:n=legs.length) (hc:legs.length≤c) (hn:n≤1048576) (hs:∀ l∈legs,l.from_.size≤maxLen∧l.to_.size≤maxLen):
 Calls Tryz.prog 118 #[.agg #[.slice A n c,v2,v3]] w fun e w'=>∃ v,e=.returned v∧Own w' w.heap.size 9 v (srtS (nmI legs legs.length))∧Up w w':=by
 subst hl
 have hmm:=@run_makeMap Tryz.prog
 go_enter Tryz.func118,Tryz.ntmps118
 go_wp2
 go_loopw [4,14] (fun v i wr=>∃ j g cp:Nat,j≤legs.length∧i=.int .i64 j∧v=.slice (some ⟨g,0,none⟩) (nmI legs j).length cp∧Own wr (w.heap.size+2) 9 (.slice (some ⟨g,0,none⟩) (nmI legs j).length cp) (nmI legs j)∧SetM Tryz.prog 9 4 wr (w.heap.size+1) (2*j) (nmI legs j)∧Up w wr) (fun _ i _=>legs.length-(intOf i).toNat)
 case atStart=>exact ⟨0,w.heap.size+1+1,0,by omega,rfl,rfl,by have h_:=Own.empty (α:=ByteArray) ((w.alloc (.cells #[.slice A legs.length c,v2,v3] 33)).alloc (.map #[] 0)) (w.heap.size+2) 9 0 #[] (by simp) (by unfold maxLen; omega) rfl; simpa [nmI] using h_,by have h_:=(SetM.made (P:=Tryz.prog) (k:=9) (e:=4) (w.alloc (.cells #[.slice A legs.length c,v2,v3] 33))).alloc (.cells #[] 9); simpa [nmI] using h_,by (repeat (first | exact Up.rfl' _ | (refine Up.al _ ?_) | (refine Up.dr _ ?_) | (refine Up.dr1 ?_) | (refine Up.sc ?_ (by first | exact Nat.le_refl _ | (simp; done) | omega) _) | (refine Up.step (by assumption) ?_)))⟩
 case round=>
  obtain ⟨i,g3,c3',hi,rfl,rfl,ho,hset,hb⟩:=hrel
  by_cases hlt:i<legs.length
  ·obtain ⟨x,hx⟩:=ZcJ hlt
   obtain ⟨b,off,rfl,hbb,c0,c1,c2,c3,c4,c5⟩:=(hr.below hb).leg hx
   have hlen:=Zpx legs i
   obtain ⟨hs1,hs2⟩:=hs x (List.mem_of_getElem? hx)
   have hgl:=World.ownsRow.lt ho g3 rfl
   have HO:=Lib.hid ho
   have HS:=Lib.hid hset
   clear ho hset
   go_wp2_with fail
   generalize hwb:(wr.alloc _).alloc _=wb
   have d0:wb.cell? ⟨wr.heap.size+1,0,none⟩=some (.string x.from_):=by rw [← hwb]; simp [go_sem]
   have d1:wb.cell? ⟨wr.heap.size+1,1,none⟩=some (.string x.to_):=by rw [← hwb]; simp [go_sem]
   have hub:Up wr wb:=by rw [← hwb]; (repeat (first | exact Up.rfl' _ | (refine Up.al _ ?_) | (refine Up.dr _ ?_) | (refine Up.dr1 ?_) | (refine Up.sc ?_ (by first | exact Nat.le_refl _ | (simp; done) | omega) _) | (refine Up.step (by assumption) ?_)))
   have hsz:wr.heap.size+2≤wb.heap.size:=by rw [← hwb]; simp
   have HS0:Hid (SetM Tryz.prog 9 4 wb (w.heap.size+1) (2*i) (nmI legs i)):=Lib.hid (by rw [← hwb]; exact (HS.out.alloc _).alloc _)
   have HO0:=Lib.hid (HO.out.up hub)
   have hb0:Up w wb:=Up.step hub hb
   clear hwb c0 c1 c2 c3 c4 c5 HS HO
   have hw0:=hb.size
   have hx1:=Zrn hx
   have hc0:=hb0
   cases h1:inL (nmI legs i) x.from_ with
   | false=>
    cases h2:inL (nmI legs i++[x.from_]) x.to_ with
    | false=>
     refine wp_loop_rounds 3 ?_
     rw [rounds_succ]
     go_wp2_with (first | (at_builtin; (have ho_:=HP2.out); go_loud (refine ZB ZfQ rfl (.tmp 34) (.tmp 36) rfl (base:=w.heap.size+2) (ys:=(nmI legs i++[x.from_])) (xs:=[x.to_]) (by rfl) (ho_.up (by (repeat (first | exact Up.rfl' _ | (refine Up.al _ ?_) | (refine Up.dr _ ?_) | (refine Up.dr1 ?_) | (refine Up.sc ?_ (by first | exact Nat.le_refl _ | (simp; done) | omega) _) | (refine Up.step (by assumption) ?_))))) 1 (by rfl) rfl (Rd.oneAt _ _ (x.to_) _ (by simp)) (by simp; omega) (by unfold maxLen; simp; omega) (by simp; omega) ?_); intro v2 w2 ho2 hg_ _ hu_; go_loud (have HS2:=Lib.hid ((HT2.out.alloc _).kept hg_ (by intro hh; have h_:=World.ownsRow.lt ho_ _ hh.symm; omega)); have hc2:Up w w2:=Below.grown (Up.al _ hd2) hg_ (by simp; omega) (fun k e=>by have h_:=World.ownsRow.lt ho_ _ e; omega); have hz2b:w2a.heap.size+1≤w2.heap.size:=(by have h_:=hg_.size; simpa using h_); have HO2:=Lib.hid ho2); clear ho2 ho_ hg_ hu_ HT2 HP2) | (at_mapUpdate; (have h_:=HS1.out); go_loud (refine ZC _ rfl _ _ _ 177 rfl 9 4 Tryz.underlying9 Tryz.underlying177 Tryz.underlying4 (w.heap.size+1) (2*i+1) (nmI legs i++[x.from_]) rfl HS1.out (by unfold maxLen; omega) _ rfl rfl hs2 ?_); intro w2a hs_ hg_; go_loud (have HT2:=Lib.hid hs_; clear hs_; have HP2:=Lib.hid (HO1.out.grown hg_ (.inr (by intro hh; have h_:=World.ownsRow.lt HO1.out _ hh; omega))); have hd2:Up w w2a:=Below.grown hc1 hg_ hc1.size (fun k e=>by cases e; omega); have hz2:=hg_.size; have hp2:=Nat.le_trans hc1.size hg_.size); clear hg_) | (at_lookup; have h_:=HS1.out; (refine Zk _ rfl _ _ 177 rfl 9 4 Tryz.underlying9 Tryz.underlying177 Tryz.underlying4 ZO (w.heap.size+1) (2*i+1) (nmI legs i++[x.from_]) rfl HS1.out _ rfl hs2 _ h2 ?_)) | (at_builtin; (have ho_:=HP1.out); go_loud (refine ZB ZfQ rfl (.tmp 34) (.tmp 36) rfl (base:=w.heap.size+2) (ys:=(nmI legs i)) (xs:=[x.from_]) (by rfl) (ho_.up (by (repeat (first | exact Up.rfl' _ | (refine Up.al _ ?_) | (refine Up.dr _ ?_) | (refine Up.dr1 ?_) | (refine Up.sc ?_ (by first | exact Nat.le_refl _ | (simp; done) | omega) _) | (refine Up.step (by assumption) ?_))))) 1 (by rfl) rfl (Rd.oneAt _ _ (x.from_) _ (by simp)) (by simp; omega) (by unfold maxLen; simp; omega) (by simp; omega) ?_); intro v1 w1 ho1 hg_ _ hu_; go_loud (have HS1:=Lib.hid ((HT1.out.alloc _).kept hg_ (by intro hh; have h_:=World.ownsRow.lt ho_ _ hh.symm; omega)); have hc1:Up w w1:=Below.grown (Up.al _ hd1) hg_ (by simp; omega) (fun k e=>by have h_:=World.ownsRow.lt ho_ _ e; omega); have d2:=(Zbo hg_ (by simp; omega) (by intro hh; have h3_:wr.heap.size+1=g3:=Option.some.inj hh; omega)).trans (Zha dz1); have hz1b:w1a.heap.size+1≤w1.heap.size:=(by have h_:=hg_.size; simpa using h_); have HO1:=Lib.hid ho1); clear ho1 ho_ hg_ hu_ HT1 HP1) | (at_mapUpdate; (have h_:=HS0.out); go_loud (refine ZC _ rfl _ _ _ 177 rfl 9 4 Tryz.underlying9 Tryz.underlying177 Tryz.underlying4 (w.heap.size+1) (2*i) (nmI legs i) rfl HS0.out (by unfold maxLen; omega) _ rfl rfl hs1 ?_); intro w1a hs_ hg_; go_loud (have HT1:=Lib.hid hs_; clear hs_; have HP1:=Lib.hid (HO0.out.grown hg_ (.inr (by intro hh; have h_:=World.ownsRow.lt HO0.out _ hh; omega))); have hd1:Up w w1a:=Below.grown hc0 hg_ hc0.size (fun k e=>by cases e; omega); have hz1:=hg_.size; have dz1:=(Zbo hg_ (by omega) (by intro hh; injection hh with hh; omega)).trans d1; have hp1:=Nat.le_trans hc0.size hg_.size); clear hg_) | (at_lookup; have h_:=HS0.out; (refine Zk _ rfl _ _ 177 rfl 9 4 Tryz.underlying9 Tryz.underlying177 Tryz.underlying4 ZO (w.heap.size+1) (2*i) (nmI legs i) rfl HS0.out _ rfl hs1 _ h1 ?_)))
     rw [rounds_succ]
     go_wp2_with (first | (at_builtin; (have ho_:=HP2.out); go_loud (refine ZB ZfQ rfl (.tmp 34) (.tmp 36) rfl (base:=w.heap.size+2) (ys:=(nmI legs i++[x.from_])) (xs:=[x.to_]) (by rfl) (ho_.up (by (repeat (first | exact Up.rfl' _ | (refine Up.al _ ?_) | (refine Up.dr _ ?_) | (refine Up.dr1 ?_) | (refine Up.sc ?_ (by first | exact Nat.le_refl _ | (simp; done) | omega) _) | (refine Up.step (by assumption) ?_))))) 1 (by rfl) rfl (Rd.oneAt _ _ (x.to_) _ (by simp)) (by simp; omega) (by unfold maxLen; simp; omega) (by simp; omega) ?_); intro v2 w2 ho2 hg_ _ hu_; go_loud (have HS2:=Lib.hid ((HT2.out.alloc _).kept hg_ (by intro hh; have h_:=World.ownsRow.lt ho_ _ hh.symm; omega)); have hc2:Up w w2:=Below.grown (Up.al _ hd2) hg_ (by simp; omega) (fun k e=>by have h_:=World.ownsRow.lt ho_ _ e; omega); have hz2b:w2a.heap.size+1≤w2.heap.size:=(by have h_:=hg_.size; simpa using h_); have HO2:=Lib.hid ho2); clear ho2 ho_ hg_ hu_ HT2 HP2) | (at_mapUpdate; (have h_:=HS1.out); go_loud (refine ZC _ rfl _ _ _ 177 rfl 9 4 Tryz.underlying9 Tryz.underlying177 Tryz.underlying4 (w.heap.size+1) (2*i+1) (nmI legs i++[x.from_]) rfl HS1.out (by unfold maxLen; omega) _ rfl rfl hs2 ?_); intro w2a hs_ hg_; go_loud (have HT2:=Lib.hid hs_; clear hs_; have HP2:=Lib.hid (HO1.out.grown hg_ (.inr (by intro hh; have h_:=World.ownsRow.lt HO1.out _ hh; omega))); have hd2:Up w w2a:=Below.grown hc1 hg_ hc1.size (fun k e=>by cases e; omega); have hz2:=hg_.size; have hp2:=Nat.le_trans hc1.size hg_.size); clear hg_) | (at_lookup; have h_:=HS1.out; (refine Zk _ rfl _ _ 177 rfl 9 4 Tryz.underlying9 Tryz.underlying177 Tryz.underlying4 ZO (w.heap.size+1) (2*i+1) (nmI legs i++[x.from_]) rfl HS1.out _ rfl hs2 _ h2 ?_)) | (at_builtin; (have ho_:=HP1.out); go_loud (refine ZB ZfQ rfl (.tmp 34) (.tmp 36) rfl (base:=w.heap.size+2) (ys:=(nmI legs i)) (xs:=[x.from_]) (by rfl) (ho_.up (by (repeat (first | exact Up.rfl' _ | (refine Up.al _ ?_) | (refine Up.dr _ ?_) | (refine Up.dr1 ?_) | (refine Up.sc ?_ (by first | exact Nat.le_refl _ | (simp; done) | omega) _) | (refine Up.step (by assumption) ?_))))) 1 (by rfl) rfl (Rd.oneAt _ _ (x.from_) _ (by simp)) (by simp; omega) (by unfold maxLen; simp; omega) (by simp; omega) ?_); intro v1 w1 ho1 hg_ _ hu_; go_loud (have HS1:=Lib.hid ((HT1.out.alloc _).kept hg_ (by intro hh; have h_:=World.ownsRow.lt ho_ _ hh.symm; omega)); have hc1:Up w w1:=Below.grown (Up.al _ hd1) hg_ (by simp; omega) (fun k e=>by have h_:=World.ownsRow.lt ho_ _ e; omega); have d2:=(Zbo hg_ (by simp; omega) (by intro hh; have h3_:wr.heap.size+1=g3:=Option.some.inj hh; omega)).trans (Zha dz1); have hz1b:w1a.heap.size+1≤w1.heap.size:=(by have h_:=hg_.size; simpa using h_); have HO1:=Lib.hid ho1); clear ho1 ho_ hg_ hu_ HT1 HP1) | (at_mapUpdate; (have h_:=HS0.out); go_loud (refine ZC _ rfl _ _ _ 177 rfl 9 4 Tryz.underlying9 Tryz.underlying177 Tryz.underlying4 (w.heap.size+1) (2*i) (nmI legs i) rfl HS0.out (by unfold maxLen; omega) _ rfl rfl hs1 ?_); intro w1a hs_ hg_; go_loud (have HT1:=Lib.hid hs_; clear hs_; have HP1:=Lib.hid (HO0.out.grown hg_ (.inr (by intro hh; have h_:=World.ownsRow.lt HO0.out _ hh; omega))); have hd1:Up w w1a:=Below.grown hc0 hg_ hc0.size (fun k e=>by cases e; omega); have hz1:=hg_.size; have dz1:=(Zbo hg_ (by omega) (by intro hh; injection hh with hh; omega)).trans d1; have hp1:=Nat.le_trans hc0.size hg_.size); clear hg_) | (at_lookup; have h_:=HS0.out; (refine Zk _ rfl _ _ 177 rfl 9 4 Tryz.underlying9 Tryz.underlying177 Tryz.underlying4 ZO (w.heap.size+1) (2*i) (nmI legs i) rfl HS0.out _ rfl hs1 _ h1 ?_)))
     rw [rounds_succ]
     go_wp2_with (first | (at_builtin; (have ho_:=HP2.out); go_loud (refine ZB ZfQ rfl (.tmp 34) (.tmp 36) rfl (base:=w.heap.size+2) (ys:=(nmI legs i++[x.from_])) (xs:=[x.to_]) (by rfl) (ho_.up (by (repeat (first | exact Up.rfl' _ | (refine Up.al _ ?_) | (refine Up.dr _ ?_) | (refine Up.dr1 ?_) | (refine Up.sc ?_ (by first | exact Nat.le_refl _ | (simp; done) | omega) _) | (refine Up.step (by assumption) ?_))))) 1 (by rfl) rfl (Rd.oneAt _ _ (x.to_) _ (by simp)) (by simp; omega) (by unfold maxLen; simp; omega) (by simp; omega) ?_); intro v2 w2 ho2 hg_ _ hu_; go_loud (have HS2:=Lib.hid ((HT2.out.alloc _).kept hg_ (by intro hh; have h_:=World.ownsRow.lt ho_ _ hh.symm; omega)); have hc2:Up w w2:=Below.grown (Up.al _ hd2) hg_ (by simp; omega) (fun k e=>by have h_:=World.ownsRow.lt ho_ _ e; omega); have hz2b:w2a.heap.size+1≤w2.heap.size:=(by have h_:=hg_.size; simpa using h_); have HO2:=Lib.hid ho2); clear ho2 ho_ hg_ hu_ HT2 HP2) | (at_mapUpdate; (have h_:=HS1.out); go_loud (refine ZC _ rfl _ _ _ 177 rfl 9 4 Tryz.underlying9 Tryz.underlying177 Tryz.underlying4 (w.heap.size+1) (2*i+1) (nmI legs i++[x.from_]) rfl HS1.out (by unfold maxLen; omega) _ rfl rfl hs2 ?_); intro w2a hs_ hg_; go_loud (have HT2:=Lib.hid hs_; clear hs_; have HP2:=Lib.hid (HO1.out.grown hg_ (.inr (by intro hh; have h_:=World.ownsRow.lt HO1.out _ hh; omega))); have hd2:Up w w2a:=Below.grown hc1 hg_ hc1.size (fun k e=>by cases e; omega); have hz2:=hg_.size; have hp2:=Nat.le_trans hc1.size hg_.size); clear hg_) | (at_lookup; have h_:=HS1.out; (refine Zk _ rfl _ _ 177 rfl 9 4 Tryz.underlying9 Tryz.underlying177 Tryz.underlying4 ZO (w.heap.size+1) (2*i+1) (nmI legs i++[x.from_]) rfl HS1.out _ rfl hs2 _ h2 ?_)) | (at_builtin; (have ho_:=HP1.out); go_loud (refine ZB ZfQ rfl (.tmp 34) (.tmp 36) rfl (base:=w.heap.size+2) (ys:=(nmI legs i)) (xs:=[x.from_]) (by rfl) (ho_.up (by (repeat (first | exact Up.rfl' _ | (refine Up.al _ ?_) | (refine Up.dr _ ?_) | (refine Up.dr1 ?_) | (refine Up.sc ?_ (by first | exact Nat.le_refl _ | (simp; done) | omega) _) | (refine Up.step (by assumption) ?_))))) 1 (by rfl) rfl (Rd.oneAt _ _ (x.from_) _ (by simp)) (by simp; omega) (by unfold maxLen; simp; omega) (by simp; omega) ?_); intro v1 w1 ho1 hg_ _ hu_; go_loud (have HS1:=Lib.hid ((HT1.out.alloc _).kept hg_ (by intro hh; have h_:=World.ownsRow.lt ho_ _ hh.symm; omega)); have hc1:Up w w1:=Below.grown (Up.al _ hd1) hg_ (by simp; omega) (fun k e=>by have h_:=World.ownsRow.lt ho_ _ e; omega); have d2:=(Zbo hg_ (by simp; omega) (by intro hh; have h3_:wr.heap.size+1=g3:=Option.some.inj hh; omega)).trans (Zha dz1); have hz1b:w1a.heap.size+1≤w1.heap.size:=(by have h_:=hg_.size; simpa using h_); have HO1:=Lib.hid ho1); clear ho1 ho_ hg_ hu_ HT1 HP1) | (at_mapUpdate; (have h_:=HS0.out); go_loud (refine ZC _ rfl _ _ _ 177 rfl 9 4 Tryz.underlying9 Tryz.underlying177 Tryz.underlying4 (w.heap.size+1) (2*i) (nmI legs i) rfl HS0.out (by unfold maxLen; omega) _ rfl rfl hs1 ?_); intro w1a hs_ hg_; go_loud (have HT1:=Lib.hid hs_; clear hs_; have HP1:=Lib.hid (HO0.out.grown hg_ (.inr (by intro hh; have h_:=World.ownsRow.lt HO0.out _ hh; omega))); have hd1:Up w w1a:=Below.grown hc0 hg_ hc0.size (fun k e=>by cases e; omega); have hz1:=hg_.size; have dz1:=(Zbo hg_ (by omega) (by intro hh; injection hh with hh; omega)).trans d1; have hp1:=Nat.le_trans hc0.size hg_.size); clear hg_) | (at_lookup; have h_:=HS0.out; (refine Zk _ rfl _ _ 177 rfl 9 4 Tryz.underlying9 Tryz.underlying177 Tryz.underlying4 ZO (w.heap.size+1) (2*i) (nmI legs i) rfl HS0.out _ rfl hs1 _ h1 ?_)))
     have hfin:nmI legs (i+1)=(nmI legs i++[x.from_]++[x.to_]):=by rw [hx1]; simp [dd,h1,h2]
     have hoF:=HO2.out
     obtain ⟨g4,c4,hv4,_⟩:=World.ownsRow.form hoF (by simp)
     exact ⟨⟨i+1,g4,c4,by omega,by go_num,by rw [hfin]; exact hv4,by rw [hfin,← hv4]; exact hoF,by rw [hfin]; exact HS2.out.mono (by omega),hc2⟩,by simp [intOf]; omega⟩
    | true=>
     refine wp_loop_rounds 3 ?_
     rw [rounds_succ]
     go_wp2_with (first | (at_lookup; have h_:=HS1.out; (refine Zk _ rfl _ _ 177 rfl 9 4 Tryz.underlying9 Tryz.underlying177 Tryz.underlying4 ZO (w.heap.size+1) (2*i+1) (nmI legs i++[x.from_]) rfl HS1.out _ rfl hs2 _ h2 ?_)) | (at_builtin; (have ho_:=HP1.out); go_loud (refine ZB ZfQ rfl (.tmp 34) (.tmp 36) rfl (base:=w.heap.size+2) (ys:=(nmI legs i)) (xs:=[x.from_]) (by rfl) (ho_.up (by (repeat (first | exact Up.rfl' _ | (refine Up.al _ ?_) | (refine Up.dr _ ?_) | (refine Up.dr1 ?_) | (refine Up.sc ?_ (by first | exact Nat.le_refl _ | (simp; done) | omega) _) | (refine Up.step (by assumption) ?_))))) 1 (by rfl) rfl (Rd.oneAt _ _ (x.from_) _ (by simp)) (by simp; omega) (by unfold maxLen; simp; omega) (by simp; omega) ?_); intro v1 w1 ho1 hg_ _ hu_; go_loud (have HS1:=Lib.hid ((HT1.out.alloc _).kept hg_ (by intro hh; have h_:=World.ownsRow.lt ho_ _ hh.symm; omega)); have hc1:Up w w1:=Below.grown (Up.al _ hd1) hg_ (by simp; omega) (fun k e=>by have h_:=World.ownsRow.lt ho_ _ e; omega); have d2:=(Zbo hg_ (by simp; omega) (by intro hh; have h3_:wr.heap.size+1=g3:=Option.some.inj hh; omega)).trans (Zha dz1); have hz1b:w1a.heap.size+1≤w1.heap.size:=(by have h_:=hg_.size; simpa using h_); have HO1:=Lib.hid ho1); clear ho1 ho_ hg_ hu_ HT1 HP1) | (at_mapUpdate; (have h_:=HS0.out); go_loud (refine ZC _ rfl _ _ _ 177 rfl 9 4 Tryz.underlying9 Tryz.underlying177 Tryz.underlying4 (w.heap.size+1) (2*i) (nmI legs i) rfl HS0.out (by unfold maxLen; omega) _ rfl rfl hs1 ?_); intro w1a hs_ hg_; go_loud (have HT1:=Lib.hid hs_; clear hs_; have HP1:=Lib.hid (HO0.out.grown hg_ (.inr (by intro hh; have h_:=World.ownsRow.lt HO0.out _ hh; omega))); have hd1:Up w w1a:=Below.grown hc0 hg_ hc0.size (fun k e=>by cases e; omega); have hz1:=hg_.size; have dz1:=(Zbo hg_ (by omega) (by intro hh; injection hh with hh; omega)).trans d1; have hp1:=Nat.le_trans hc0.size hg_.size); clear hg_) | (at_lookup; have h_:=HS0.out; (refine Zk _ rfl _ _ 177 rfl 9 4 Tryz.underlying9 Tryz.underlying177 Tryz.underlying4 ZO (w.heap.size+1) (2*i) (nmI legs i) rfl HS0.out _ rfl hs1 _ h1 ?_)))
     rw [rounds_succ]
     go_wp2_with (first | (at_lookup; have h_:=HS1.out; (refine Zk _ rfl _ _ 177 rfl 9 4 Tryz.underlying9 Tryz.underlying177 Tryz.underlying4 ZO (w.heap.size+1) (2*i+1) (nmI legs i++[x.from_]) rfl HS1.out _ rfl hs2 _ h2 ?_)) | (at_builtin; (have ho_:=HP1.out); go_loud (refine ZB ZfQ rfl (.tmp 34) (.tmp 36) rfl (base:=w.heap.size+2) (ys:=(nmI legs i)) (xs:=[x.from_]) (by rfl) (ho_.up (by (repeat (first | exact Up.rfl' _ | (refine Up.al _ ?_) | (refine Up.dr _ ?_) | (refine Up.dr1 ?_) | (refine Up.sc ?_ (by first | exact Nat.le_refl _ | (simp; done) | omega) _) | (refine Up.step (by assumption) ?_))))) 1 (by rfl) rfl (Rd.oneAt _ _ (x.from_) _ (by simp)) (by simp; omega) (by unfold maxLen; simp; omega) (by simp; omega) ?_); intro v1 w1 ho1 hg_ _ hu_; go_loud (have HS1:=Lib.hid ((HT1.out.alloc _).kept hg_ (by intro hh; have h_:=World.ownsRow.lt ho_ _ hh.symm; omega)); have hc1:Up w w1:=Below.grown (Up.al _ hd1) hg_ (by simp; omega) (fun k e=>by have h_:=World.ownsRow.lt ho_ _ e; omega); have d2:=(Zbo hg_ (by simp; omega) (by intro hh; have h3_:wr.heap.size+1=g3:=Option.some.inj hh; omega)).trans (Zha dz1); have hz1b:w1a.heap.size+1≤w1.heap.size:=(by have h_:=hg_.size; simpa using h_); have HO1:=Lib.hid ho1); clear ho1 ho_ hg_ hu_ HT1 HP1) | (at_mapUpdate; (have h_:=HS0.out); go_loud (refine ZC _ rfl _ _ _ 177 rfl 9 4 Tryz.underlying9 Tryz.underlying177 Tryz.underlying4 (w.heap.size+1) (2*i) (nmI legs i) rfl HS0.out (by unfold maxLen; omega) _ rfl rfl hs1 ?_); intro w1a hs_ hg_; go_loud (have HT1:=Lib.hid hs_; clear hs_; have HP1:=Lib.hid (HO0.out.grown hg_ (.inr (by intro hh; have h_:=World.ownsRow.lt HO0.out _ hh; omega))); have hd1:Up w w1a:=Below.grown hc0 hg_ hc0.size (fun k e=>by cases e; omega); have hz1:=hg_.size; have dz1:=(Zbo hg_ (by omega) (by intro hh; injection hh with hh; omega)).trans d1; have hp1:=Nat.le_trans hc0.size hg_.size); clear hg_) | (at_lookup; have h_:=HS0.out; (refine Zk _ rfl _ _ 177 rfl 9 4 Tryz.underlying9 Tryz.underlying177 Tryz.underlying4 ZO (w.heap.size+1) (2*i) (nmI legs i) rfl HS0.out _ rfl hs1 _ h1 ?_)))
     rw [rounds_succ]
     go_wp2_with (first | (at_lookup; have h_:=HS1.out; (refine Zk _ rfl _ _ 177 rfl 9 4 Tryz.underlying9 Tryz.underlying177 Tryz.underlying4 ZO (w.heap.size+1) (2*i+1) (nmI legs i++[x.from_]) rfl HS1.out _ rfl hs2 _ h2 ?_)) | (at_builtin; (have ho_:=HP1.out); go_loud (refine ZB ZfQ rfl (.tmp 34) (.tmp 36) rfl (base:=w.heap.size+2) (ys:=(nmI legs i)) (xs:=[x.from_]) (by rfl) (ho_.up (by (repeat (first | exact Up.rfl' _ | (refine Up.al _ ?_) | (refine Up.dr _ ?_) | (refine Up.dr1 ?_) | (refine Up.sc ?_ (by first | exact Nat.le_refl _ | (simp; done) | omega) _) | (refine Up.step (by assumption) ?_))))) 1 (by rfl) rfl (Rd.oneAt _ _ (x.from_) _ (by simp)) (by simp; omega) (by unfold maxLen; simp; omega) (by simp; omega) ?_); intro v1 w1 ho1 hg_ _ hu_; go_loud (have HS1:=Lib.hid ((HT1.out.alloc _).kept hg_ (by intro hh; have h_:=World.ownsRow.lt ho_ _ hh.symm; omega)); have hc1:Up w w1:=Below.grown (Up.al _ hd1) hg_ (by simp; omega) (fun k e=>by have h_:=World.ownsRow.lt ho_ _ e; omega); have d2:=(Zbo hg_ (by simp; omega) (by intro hh; have h3_:wr.heap.size+1=g3:=Option.some.inj hh; omega)).trans (Zha dz1); have hz1b:w1a.heap.size+1≤w1.heap.size:=(by have h_:=hg_.size; simpa using h_); have HO1:=Lib.hid ho1); clear ho1 ho_ hg_ hu_ HT1 HP1) | (at_mapUpdate; (have h_:=HS0.out); go_loud (refine ZC _ rfl _ _ _ 177 rfl 9 4 Tryz.underlying9 Tryz.underlying177 Tryz.underlying4 (w.heap.size+1) (2*i) (nmI legs i) rfl HS0.out (by unfold maxLen; omega) _ rfl rfl hs1 ?_); intro w1a hs_ hg_; go_loud (have HT1:=Lib.hid hs_; clear hs_; have HP1:=Lib.hid (HO0.out.grown hg_ (.inr (by intro hh; have h_:=World.ownsRow.lt HO0.out _ hh; omega))); have hd1:Up w w1a:=Below.grown hc0 hg_ hc0.size (fun k e=>by cases e; omega); have hz1:=hg_.size; have dz1:=(Zbo hg_ (by omega) (by intro hh; injection hh with hh; omega)).trans d1; have hp1:=Nat.le_trans hc0.size hg_.size); clear hg_) | (at_lookup; have h_:=HS0.out; (refine Zk _ rfl _ _ 177 rfl 9 4 Tryz.underlying9 Tryz.underlying177 Tryz.underlying4 ZO (w.heap.size+1) (2*i) (nmI legs i) rfl HS0.out _ rfl hs1 _ h1 ?_)))
     have hfin:nmI legs (i+1)=(nmI legs i++[x.from_]):=by rw [hx1]; simp [dd,h1,h2]
     have hoF:=HO1.out
     obtain ⟨g4,c4,hv4,_⟩:=World.ownsRow.form hoF (by simp)
     exact ⟨⟨i+1,g4,c4,by omega,by go_num,by rw [hfin]; exact hv4,by rw [hfin,← hv4]; exact hoF,by rw [hfin]; exact HS1.out.mono (by omega),hc1⟩,by simp [intOf]; omega⟩
   | true=>
    cases h2:inL (nmI legs i) x.to_ with
    | false=>
     refine wp_loop_rounds 3 ?_
     rw [rounds_succ]
     go_wp2_with (first | (at_lookup; have h_:=HS0.out; (refine Zk _ rfl _ _ 177 rfl 9 4 Tryz.underlying9 Tryz.underlying177 Tryz.underlying4 ZO (w.heap.size+1) (2*i) (nmI legs i) rfl HS0.out _ rfl hs1 _ h1 ?_)) | (at_lookup; have h_:=HS0.out; (refine Zk _ rfl _ _ 177 rfl 9 4 Tryz.underlying9 Tryz.underlying177 Tryz.underlying4 ZO (w.heap.size+1) (2*i) (nmI legs i) rfl HS0.out _ rfl hs2 _ h2 ?_)) | (at_mapUpdate; (have h_:=HS0.out); go_loud (refine ZC _ rfl _ _ _ 177 rfl 9 4 Tryz.underlying9 Tryz.underlying177 Tryz.underlying4 (w.heap.size+1) (2*i) (nmI legs i) rfl HS0.out (by unfold maxLen; omega) _ rfl rfl hs2 ?_); intro w2a hs_ hg_; go_loud (have HT2:=Lib.hid hs_; clear hs_; have HP2:=Lib.hid (HO0.out.grown hg_ (.inr (by intro hh; have h_:=World.ownsRow.lt HO0.out _ hh; omega))); have hd2:Up w w2a:=Below.grown hc0 hg_ hc0.size (fun k e=>by cases e; omega); have hz2:=hg_.size; have hp2:=Nat.le_trans hc0.size hg_.size); clear hg_) | (at_builtin; (have ho_:=HP2.out); go_loud (refine ZB ZfQ rfl (.tmp 34) (.tmp 36) rfl (base:=w.heap.size+2) (ys:=(nmI legs i)) (xs:=[x.to_]) (by rfl) (ho_.up (by (repeat (first | exact Up.rfl' _ | (refine Up.al _ ?_) | (refine Up.dr _ ?_) | (refine Up.dr1 ?_) | (refine Up.sc ?_ (by first | exact Nat.le_refl _ | (simp; done) | omega) _) | (refine Up.step (by assumption) ?_))))) 1 (by rfl) rfl (Rd.oneAt _ _ (x.to_) _ (by simp)) (by simp; omega) (by unfold maxLen; simp; omega) (by simp; omega) ?_); intro v2 w2 ho2 hg_ _ hu_; go_loud (have HS2:=Lib.hid ((HT2.out.alloc _).kept hg_ (by intro hh; have h_:=World.ownsRow.lt ho_ _ hh.symm; omega)); have hc2:Up w w2:=Below.grown (Up.al _ hd2) hg_ (by simp; omega) (fun k e=>by have h_:=World.ownsRow.lt ho_ _ e; omega); have hz2b:w2a.heap.size+1≤w2.heap.size:=(by have h_:=hg_.size; simpa using h_); have HO2:=Lib.hid ho2); clear ho2 ho_ hg_ hu_ HT2 HP2))
     rw [rounds_succ]
     go_wp2_with (first | (at_lookup; have h_:=HS0.out; (refine Zk _ rfl _ _ 177 rfl 9 4 Tryz.underlying9 Tryz.underlying177 Tryz.underlying4 ZO (w.heap.size+1) (2*i) (nmI legs i) rfl HS0.out _ rfl hs1 _ h1 ?_)) | (at_lookup; have h_:=HS0.out; (refine Zk _ rfl _ _ 177 rfl 9 4 Tryz.underlying9 Tryz.underlying177 Tryz.underlying4 ZO (w.heap.size+1) (2*i) (nmI legs i) rfl HS0.out _ rfl hs2 _ h2 ?_)) | (at_mapUpdate; (have h_:=HS0.out); go_loud (refine ZC _ rfl _ _ _ 177 rfl 9 4 Tryz.underlying9 Tryz.underlying177 Tryz.underlying4 (w.heap.size+1) (2*i) (nmI legs i) rfl HS0.out (by unfold maxLen; omega) _ rfl rfl hs2 ?_); intro w2a hs_ hg_; go_loud (have HT2:=Lib.hid hs_; clear hs_; have HP2:=Lib.hid (HO0.out.grown hg_ (.inr (by intro hh; have h_:=World.ownsRow.lt HO0.out _ hh; omega))); have hd2:Up w w2a:=Below.grown hc0 hg_ hc0.size (fun k e=>by cases e; omega); have hz2:=hg_.size; have hp2:=Nat.le_trans hc0.size hg_.size); clear hg_) | (at_builtin; (have ho_:=HP2.out); go_loud (refine ZB ZfQ rfl (.tmp 34) (.tmp 36) rfl (base:=w.heap.size+2) (ys:=(nmI legs i)) (xs:=[x.to_]) (by rfl) (ho_.up (by (repeat (first | exact Up.rfl' _ | (refine Up.al _ ?_) | (refine Up.dr _ ?_) | (refine Up.dr1 ?_) | (refine Up.sc ?_ (by first | exact Nat.le_refl _ | (simp; done) | omega) _) | (refine Up.step (by assumption) ?_))))) 1 (by rfl) rfl (Rd.oneAt _ _ (x.to_) _ (by simp)) (by simp; omega) (by unfold maxLen; simp; omega) (by simp; omega) ?_); intro v2 w2 ho2 hg_ _ hu_; go_loud (have HS2:=Lib.hid ((HT2.out.alloc _).kept hg_ (by intro hh; have h_:=World.ownsRow.lt ho_ _ hh.symm; omega)); have hc2:Up w w2:=Below.grown (Up.al _ hd2) hg_ (by simp; omega) (fun k e=>by have h_:=World.ownsRow.lt ho_ _ e; omega); have hz2b:w2a.heap.size+1≤w2.heap.size:=(by have h_:=hg_.size; simpa using h_); have HO2:=Lib.hid ho2); clear ho2 ho_ hg_ hu_ HT2 HP2))
     rw [rounds_succ]
     go_wp2_with (first | (at_lookup; have h_:=HS0.out; (refine Zk _ rfl _ _ 177 rfl 9 4 Tryz.underlying9 Tryz.underlying177 Tryz.underlying4 ZO (w.heap.size+1) (2*i) (nmI legs i) rfl HS0.out _ rfl hs1 _ h1 ?_)) | (at_lookup; have h_:=HS0.out; (refine Zk _ rfl _ _ 177 rfl 9 4 Tryz.underlying9 Tryz.underlying177 Tryz.underlying4 ZO (w.heap.size+1) (2*i) (nmI legs i) rfl HS0.out _ rfl hs2 _ h2 ?_)) | (at_mapUpdate; (have h_:=HS0.out); go_loud (refine ZC _ rfl _ _ _ 177 rfl 9 4 Tryz.underlying9 Tryz.underlying177 Tryz.underlying4 (w.heap.size+1) (2*i) (nmI legs i) rfl HS0.out (by unfold maxLen; omega) _ rfl rfl hs2 ?_); intro w2a hs_ hg_; go_loud (have HT2:=Lib.hid hs_; clear hs_; have HP2:=Lib.hid (HO0.out.grown hg_ (.inr (by intro hh; have h_:=World.ownsRow.lt HO0.out _ hh; omega))); have hd2:Up w w2a:=Below.grown hc0 hg_ hc0.size (fun k e=>by cases e; omega); have hz2:=hg_.size; have hp2:=Nat.le_trans hc0.size hg_.size); clear hg_) | (at_builtin; (have ho_:=HP2.out); go_loud (refine ZB ZfQ rfl (.tmp 34) (.tmp 36) rfl (base:=w.heap.size+2) (ys:=(nmI legs i)) (xs:=[x.to_]) (by rfl) (ho_.up (by (repeat (first | exact Up.rfl' _ | (refine Up.al _ ?_) | (refine Up.dr _ ?_) | (refine Up.dr1 ?_) | (refine Up.sc ?_ (by first | exact Nat.le_refl _ | (simp; done) | omega) _) | (refine Up.step (by assumption) ?_))))) 1 (by rfl) rfl (Rd.oneAt _ _ (x.to_) _ (by simp)) (by simp; omega) (by unfold maxLen; simp; omega) (by simp; omega) ?_); intro v2 w2 ho2 hg_ _ hu_; go_loud (have HS2:=Lib.hid ((HT2.out.alloc _).kept hg_ (by intro hh; have h_:=World.ownsRow.lt ho_ _ hh.symm; omega)); have hc2:Up w w2:=Below.grown (Up.al _ hd2) hg_ (by simp; omega) (fun k e=>by have h_:=World.ownsRow.lt ho_ _ e; omega); have hz2b:w2a.heap.size+1≤w2.heap.size:=(by have h_:=hg_.size; simpa using h_); have HO2:=Lib.hid ho2); clear ho2 ho_ hg_ hu_ HT2 HP2))
     have hfin:nmI legs (i+1)=(nmI legs i++[x.to_]):=by rw [hx1]; simp [dd,h1,h2]
     have hoF:=HO2.out
     obtain ⟨g4,c4,hv4,_⟩:=World.ownsRow.form hoF (by simp)
     exact ⟨⟨i+1,g4,c4,by omega,by go_num,by rw [hfin]; exact hv4,by rw [hfin,← hv4]; exact hoF,by rw [hfin]; exact HS2.out.mono (by omega),hc2⟩,by simp [intOf]; omega⟩
    | true=>
     refine wp_loop_rounds 3 ?_
     rw [rounds_succ]
     go_wp2_with (first | (at_lookup; have h_:=HS0.out; (refine Zk _ rfl _ _ 177 rfl 9 4 Tryz.underlying9 Tryz.underlying177 Tryz.underlying4 ZO (w.heap.size+1) (2*i) (nmI legs i) rfl HS0.out _ rfl hs1 _ h1 ?_)) | (at_lookup; have h_:=HS0.out; (refine Zk _ rfl _ _ 177 rfl 9 4 Tryz.underlying9 Tryz.underlying177 Tryz.underlying4 ZO (w.heap.size+1) (2*i) (nmI legs i) rfl HS0.out _ rfl hs2 _ h2 ?_)))
     rw [rounds_succ]
     go_wp2_with (first | (at_lookup; have h_:=HS0.out; (refine Zk _ rfl _ _ 177 rfl 9 4 Tryz.underlying9 Tryz.underlying177 Tryz.underlying4 ZO (w.heap.size+1) (2*i) (nmI legs i) rfl HS0.out _ rfl hs1 _ h1 ?_)) | (at_lookup; have h_:=HS0.out; (refine Zk _ rfl _ _ 177 rfl 9 4 Tryz.underlying9 Tryz.underlying177 Tryz.underlying4 ZO (w.heap.size+1) (2*i) (nmI legs i) rfl HS0.out _ rfl hs2 _ h2 ?_)))
     rw [rounds_succ]
     go_wp2_with (first | (at_lookup; have h_:=HS0.out; (refine Zk _ rfl _ _ 177 rfl 9 4 Tryz.underlying9 Tryz.underlying177 Tryz.underlying4 ZO (w.heap.size+1) (2*i) (nmI legs i) rfl HS0.out _ rfl hs1 _ h1 ?_)) | (at_lookup; have h_:=HS0.out; (refine Zk _ rfl _ _ 177 rfl 9 4 Tryz.underlying9 Tryz.underlying177 Tryz.underlying4 ZO (w.heap.size+1) (2*i) (nmI legs i) rfl HS0.out _ rfl hs2 _ h2 ?_)))
     have hfin:nmI legs (i+1)=(nmI legs i):=by rw [hx1]; simp [dd,h1,h2]
     exact ⟨⟨i+1,g3,c3',by omega,by go_num,by rw [hfin],by rw [hfin]; exact HO0.out,by rw [hfin]; exact HS0.out.mono (by omega),hc0⟩,by simp [intOf]; omega⟩
  ·obtain rfl:i=legs.length:=by omega
   have hlen:=Zpx legs legs.length
   go_wp2_with fail
   refine (Zmo g3 c3' _ _ (nmI legs legs.length) _ ho rfl (by omega)).mono ?_
   rintro e w1 ⟨rfl,ho1,hg1⟩
   have hu1:Up w w1:=Below.grown hb hg1 hb.size (fun k e=>by cases e; have h_:=World.ownsRow.lt ho g3 rfl; omega)
   go_wp2_with fail
   go_ret
   exact ⟨_,rfl,by simpa [ZnI] using ho1.more (by omega),hu1⟩
end Go.Proofs.YtkcnllbmpbhndaaGreat
namespace Go.Proofs.YtkcnllbmpbhndaaGreat
set_option maxRecDepth 10000
open Go.RowKit
set_option linter.unusedVariables false
set_option linter.unusedSimpArgs false
theorem Zpy (n:YNetwork):nmI n.legs n.legs.length=(Zdo n).foldl dd []:=by
 have h:∀ (l:List YLeg) (acc:List ByteArray),l.foldl (fun out l=>dd (dd out l.from_) l.to_) acc=(l.flatMap fun l=>[l.from_,l.to_]).foldl dd acc:=by
  intro l
  induction l with
  | nil=>intro acc; rfl
  | cons x l ih=>intro acc; simp only [List.foldl_cons,List.flatMap_cons,List.foldl_append,List.foldl_nil,ih]
 unfold nmI Zdo
 rw [List.take_length]
 exact h _ _
def ZV (n:YNetwork):Option (List ByteArray):=
 if n.legs.length≤1048576∧(n.legs.all fun l=>decide (l.from_.size≤maxLen∧l.to_.size≤maxLen))=true then some (srtS ((Zdo n).foldl dd [])) else none
theorem ZhP (n:YNetwork) {r:(List ByteArray)} (H:ZV n=some r):ZdG Tryz.prog 118 [.ag (cNetwork n)] [] (.ms 0) [some ⟨.of 9,1,r.map cStr⟩]:=by
 unfold ZV at H
 split at H
 case isFalse=>cases H
 rename_i hok
 obtain ⟨hn,hs⟩:=hok
 obtain rfl:=Option.some.inj H
 have hs':∀ l∈n.legs,l.from_.size≤maxLen∧l.to_.size≤maxLen:=fun l hl=>of_decide_eq_true (List.all_eq_true.1 hs l hl)
 intro S β w vs ω hk hl ha
 obtain ⟨x,hx0,hr⟩:=ha 0 _ rfl
 have hv:vs=#[x]:=by
  have h1:vs.size=1:=hl
  apply Array.ext (by simp [h1])
  intro i h2 h3
  have:i=0:=by omega
  subst this
  have:=(Array.getElem?_eq_some_iff.1 hx0).2
  simpa using this
 subst hv
 obtain ⟨us,rfl,hul,hu1,hur⟩:=hr.ag_inv
 have hul':us.size=3:=hul
 have h0:us[0]?=some us[0]:=Array.getElem?_eq_getElem (by omega)
 have hus:us=#[us[0],us[1],us[2]]:=by
  apply Array.ext (by simp [hul'])
  intro i h2 h3
  match i,h2 with
  | 0,_=>rfl
  | 1,_=>rfl
  | 2,_=>rfl
  | i+3,h2=>omega
 have hr0:=hur 0 (.sl (n.legs.map cLeg)) _ rfl h0
 have hsl:∃ A c,us[0]=.slice A n.legs.length c∧n.legs.length≤c∧Rd w w.heap.size A n.legs:=by
  cases hr0 with
  | c h=>
   generalize hq:PV.sl (n.legs.map cLeg)=q at h
   generalize us[0]=y at h
   cases h with
   | v x h=>cases hq
   | ud=>cases hq
   | un=>cases hq
   | rp=>cases hq
   | fn=>cases hq
   | nil A c=>
    have:n.legs=[]:=by simpa using hq
    exact ⟨A,c,by rw [this]; rfl,by rw [this]; simp,by rw [this]; exact Rd.nil_⟩
   | sl es b off k c u hS hkp hnc hm hes hcc h1 hrr=>
    obtain rfl:n.legs.map cLeg=es:=by simpa using hq
    refine ⟨_,c,by simp,by simpa using hnc,fun hne=>⟨b,off,rfl,hk.sz b hS,fun j u' hu'=>?_⟩⟩
    have hpos:0<n.legs.length:=List.length_pos_iff.2 hne
    have hk6:k=6:=(hes 0 (cLeg n.legs[0]) (by simp [hpos])).symm
    subst hk6
    have hj:=(List.getElem?_eq_some_iff.1 hu').1
    rw [ZfI] at hj
    have hj6:j<n.legs.length*6:=hj
    have hi:j / 6<n.legs.length:=by omega
    have hy:n.legs[j / 6]?=some n.legs[j / 6]:=List.getElem?_eq_getElem hi
    have hjj:j=(j / 6)*6+j % 6:=by omega
    have hm6:j % 6<6:=Nat.mod_lt _ (by decide)
    have hp:∃ p u'',(cLeg n.legs[j / 6])[j % 6]?=some p∧(Enc.cells n.legs[j / 6])[j % 6]?=some u''∧∀ z,RepC w S p z→z=u'':=by
     generalize n.legs[j / 6]=y
     generalize j % 6=m at hm6
     match m,hm6 with
     | 0,_=>exact ⟨_,_,rfl,rfl,fun z hz=>by cases hz; rfl⟩
     | 1,_=>exact ⟨_,_,rfl,rfl,fun z hz=>by cases hz; rfl⟩
     | 2,_=>exact ⟨_,_,rfl,rfl,fun z hz=>by cases hz; rfl⟩
     | 3,_=>exact ⟨_,_,rfl,rfl,fun z hz=>by cases hz; rfl⟩
     | 4,_=>exact ⟨_,_,rfl,rfl,fun z hz=>by cases hz; rfl⟩
     | 5,_=>exact ⟨_,_,rfl,rfl,fun z hz=>by cases hz; rfl⟩
    obtain ⟨p,u'',hp1,hp2,hp3⟩:=hp
    have hf:=ZjS hy hp2
    rw [show Enc.k YLeg=6 from rfl,← hjj] at hf
    obtain rfl:u''=u':=Option.some.inj (hf.symm.trans hu')
    have e1:(n.legs.map cLeg)[j / 6]?=some (cLeg n.legs[j / 6]):=by simp [hi]
    have hc:=hcc (j / 6) _ (j % 6) p e1 hp1
    have hz:=hp3 _ (hrr (j / 6) _ (j % 6) p e1 hp1)
    rw [hz] at hc
    rw [show off+j=off+j / 6*6+j % 6 by omega]
    exact hc
 obtain ⟨A,c,hA,hcap,hrd⟩:=hsl
 rw [hus,hA]
 refine (Zmj A n.legs _ c _ _ w hrd rfl hcap hn hs').mono ?_
 rintro e w' ⟨v,rfl,ho,hu⟩
 rw [Zpy] at ho
 obtain ⟨E',h1,h2,h3,h4,h5⟩:=Zk3 (c:=cStr) hk ho hu (fun x=>⟨rfl,fun j p hj=>by
  cases j with
  | zero=>obtain rfl:vs x=p:=by simpa using hj
          exact ⟨_,rfl,rfl,fun w E=>.c (.v _ rfl)⟩
  | succ j=>simp [cStr] at hj⟩)
 exact ⟨v,E',rfl,h1,h2,h3,h4,h5⟩
instance (n:YNetwork):CT Tryz.prog (ZV n):=⟨118,[.ag (cNetwork n)],[],fun r=>.ms 0,fun r=>[some ⟨.of 9,1,r.map cStr⟩],ZhP n⟩
class Zop {α β:Type} [Enc β] (c:α→List PV) (g:α→β):Prop where
 len:∀ x,(c x).length=Enc.k β
 at_:∀ x (j:Nat) (p:PV),(c x)[j]?=some p→∃ u,(Enc.cells (g x))[j]?=some u∧p=.v u
theorem Zhu {α β:Type} [Enc β] {c:α→List PV} (g:α→β) [hf:Zop c g] {w:World} {S:Nat→Prop} {xs:List α} {x:Value} (hsz:∀ b,S b→b<w.heap.size) (h:RepC w S (.sl (xs.map c)) x):
 ∃ A n,x=.slice A xs.length n∧xs.length≤n∧(xs≠[]→n≤maxLen)∧Rd w w.heap.size A (xs.map g):=by
 generalize hq:PV.sl (xs.map c)=q at h
 cases h with
 | v x h=>cases hq
 | ud=>cases hq
 | un=>cases hq
 | rp=>cases hq
 | fn=>cases hq
 | nil A n=>
  have:xs=[]:=by simpa using hq
  exact ⟨A,n,by rw [this]; rfl,by rw [this]; simp,fun h=>absurd this h,by rw [this]; exact Rd.nil_⟩
 | sl es b off k n u hS hkp hnc hm hes hcc h1 hrr=>
  obtain rfl:xs.map c=es:=by simpa using hq
  refine ⟨_,n,by simp,by simpa using hnc,fun _=>hm,fun hne=>⟨b,off,rfl,hsz b hS,fun t u' hu'=>?_⟩⟩
  have hne':xs≠[]:=fun e=>hne (by rw [e]; rfl)
  have hpos:0<xs.length:=List.length_pos_iff.2 hne'
  have hk1:k=Enc.k β:=((hes 0 (c xs[0]) (by simp [hpos])).symm).trans (hf.len _)
  subst hk1
  have hkp':0<Enc.k β:=hkp
  have ht:=(List.getElem?_eq_some_iff.1 hu').1
  rw [ZfI,List.length_map] at ht
  have hi:t / Enc.k β<xs.length:=by rw [Nat.div_lt_iff_lt_mul hkp']; exact ht
  have hj:=Nat.mod_lt t hkp'
  have e0:t / Enc.k β*Enc.k β+t % Enc.k β=t:=by rw [Nat.mul_comm]; exact Nat.div_add_mod t _
  have e1:(xs.map c)[t / Enc.k β]?=some (c xs[t / Enc.k β]):=by simp [hi]
  have e2:(c xs[t / Enc.k β])[t % Enc.k β]?=some ((c xs[t / Enc.k β])[t % Enc.k β]'(by rw [hf.len]; exact hj)):=List.getElem?_eq_getElem _
  obtain ⟨v,hv,hp⟩:=hf.at_ _ _ _ e2
  have hfl:=ZjS (xs:=xs.map g) (i:=t / Enc.k β) (x:=g xs[t / Enc.k β]) (by simp [hi]) hv
  rw [e0,hu'] at hfl
  obtain rfl:=Option.some.inj hfl
  have hc:=hcc _ _ _ _ e1 e2
  have hz:=hrr _ _ _ _ e1 e2
  rw [hp] at hz
  have hz':u (t / Enc.k β) (t % Enc.k β)=u':=by
   generalize u (t / Enc.k β) (t % Enc.k β)=z at hz
   cases hz with
   | v _ _=>rfl
  rw [hz'] at hc
  rw [← e0,← Nat.add_assoc]
  exact hc
theorem Zhe {P:Program} {f:FuncId} {args:List PV} {val:Value} (h1:val.oneCell'=true)
 (h:∀ (S:Nat→Prop) (β:Nat→Option Blk) (w:World) (vs:Array Value),(∀ b,S b→b<w.heap.size)→vs.size=args.length→(∀ (i:Nat) (p:PV),args[i]?=some p→∃ x,vs[i]?=some x∧Rep w (E1 S β 0) p x)→
  Calls P f vs w fun e w'=>e=.returned val∧Up w w'):ZdG P f args [] (.v val) []:=by
 intro S β w vs ω hk hl ha
 refine (h S β w vs hk.sz hl fun i p hp=>by obtain ⟨x,h1,h2⟩:=ha i p hp; exact ⟨x,h1,h2.toω⟩).mono ?_
 rintro e w' ⟨rfl,hu⟩
 refine ⟨val,E1 S β 0,rfl,⟨⟨hu.os,hu.tape,hu.output,hu.size,fun b hb _=>hu.block b hb⟩,fun b hb=>Nat.lt_of_lt_of_le (hk.sz b hb) hu.size,fun l B hB hz=>?_,hk.inj,hk.used,hk.bu,fun l mb hm=>(by simp at hm),hk.dom,hk.tab,fun _ _ h=>h.elim⟩,fun b h=>h,fun b h=>.inl h,⟨fun l B _ h=>h,fun _ _ h=>h.elim⟩,.c (.v _ h1)⟩
 obtain ⟨a,b,c⟩:=hk.own l B hB hz
 exact ⟨a,Nat.lt_of_lt_of_le b hu.size,c⟩
theorem ZqF {vs:Array Value} {x0:Value} (h:vs.size=1) (h0:vs[0]?=some x0):vs=#[x0]:=by
 apply Array.ext (by simp [h])
 intro i h2 h3
 obtain rfl:i=0:=by omega
 simpa using (Array.getElem?_eq_some_iff.1 h0).2
theorem ZtK {vs:Array Value} {x0 x1 x2:Value} (h:vs.size=3) (h0:vs[0]?=some x0) (h1:vs[1]?=some x1) (h2:vs[2]?=some x2):vs=#[x0,x1,x2]:=by
 apply Array.ext (by simp [h])
 intro i hi h3
 have a0:=(Array.getElem?_eq_some_iff.1 h0).2
 have a1:=(Array.getElem?_eq_some_iff.1 h1).2
 have a2:=(Array.getElem?_eq_some_iff.1 h2).2
 match i,hi with
 | 0,_=>simpa using a0
 | 1,_=>simpa using a1
 | 2,_=>simpa using a2
 | i+3,hi=>omega
theorem ZnD {w:World} {E:Env} {a x:Value} (h:Rep w E (.v a) x):x=a:=h.v_inv.1
theorem ZjD {w:World} {E:Env} {es:List (List PV)} {x:Value} (h:Rep w E (.sl es) x):RepC w E.S (.sl es) x:=h.sl_inv
instance:Zop cInt (id:Int→Int):=⟨fun x=>rfl,fun x j p h=>by
 cases j with
 | zero=>obtain rfl:vi x=p:=by simpa using h
         exact ⟨_,rfl,rfl⟩
 | succ j=>simp [cInt] at h⟩
theorem Ze4 (n l h:Int) (w:World):Calls Tryz.prog 114 #[.int .i64 n,.int .i64 l,.int .i64 h] w fun e w'=>e=.returned (.bool (inB n l h))∧w=w':=by
 by_cases h1:l≤n
 ·go_enter Tryz.func114,Tryz.ntmps114
  go_wp2
  go_ret
  exact ⟨by simp [h1,inB],rfl⟩
 ·go_enter Tryz.func114,Tryz.ntmps114
  go_wp2
  go_ret
  exact ⟨by simp [inB]; omega,rfl⟩
theorem Zgh (n l h:Int) (w:World):Calls Tryz.prog 101 #[.int .i64 n,.int .i64 l,.int .i64 h] w fun e w'=>e=.returned (.bool (inB n l h))∧w=w':=by
 by_cases h1:l≤n
 ·go_enter Tryz.func101,Tryz.ntmps101
  go_wp2
  go_ret
  exact ⟨by simp [h1,inB],rfl⟩
 ·go_enter Tryz.func101,Tryz.ntmps101
  go_wp2
  go_ret
  exact ⟨by simp [inB]; omega,rfl⟩
theorem Rd.int {w:World} {B:Nat} {A:Option Addr} {xs:List Int} {i:Nat} {x:Int} (h:Rd w B A xs) (hx:xs[i]?=some x):
 ∃ b off,A=some ⟨b,off,none⟩∧b<B∧w.cell? ⟨b,off+i,none⟩=some (I x):=by
 obtain ⟨b,off,e,hb,hc⟩:=h.at_ hx
 have h0:=hc 0 _ rfl
 have:off+i*Enc.k Int+0=off+i:=by show off+i*1+0=off+i; omega
 rw [this] at h0
 exact ⟨b,off,e,hb,h0⟩
theorem ZhM (A:Option Addr) (c:Nat) (xs:List Int) (w:World) (hx:Rd w w.heap.size A xs) (hn:xs.length≤2000000):
 Calls Tryz.prog 77 #[.slice A xs.length c] w fun e w'=>e=.returned (.bool (Zhp xs))∧Below w.heap.size w w':=by
 go_enter Tryz.func77,Tryz.ntmps77
 go_wp2
 go_loopw [7] (fun i wr=>∃ j:Nat,j≤xs.length∧i=.int .i64 j∧Hid (ZfR j (Zho xs)=true)∧Below w.heap.size w wr) (fun i _=>xs.length-(intOf i).toNat)
 case atStart=>exact ⟨0,by omega,rfl,Zf8 _,Below.refl _ _⟩
 case round=>
  obtain ⟨i,hi,rfl,he,hb⟩:=hrel
  by_cases hlt:i<xs.length
  ·obtain ⟨x,gx⟩:=ZcJ hlt
   cases hin:inB x 0 100 with
   | false=>
    obtain ⟨b,off,rfl,hbb,c0⟩:=(hx.below hb).int gx
    have HR:=Lib.hid (ZfJ hlt (Zle gx hin))
    clear gx hx
    go_wp2_with (go_at_call 114; refine (Ze4 _ _ _ _).mono ?_; rintro e w' ⟨rfl,rfl⟩)
    go_ret
    exact ⟨retb HR.out.symm,hb⟩
   | true=>
    rcases Nat.eq_zero_or_pos i with h0' | h0
    ·have h0:i≤0:=by omega
     clear h0'
     obtain ⟨b,off,rfl,hbb,c0⟩:=(hx.below hb).int gx
     have HR:=Lib.hid (Zjz h0 gx hin)
     clear gx hx
     go_wp2_with (go_at_call 114; refine (Ze4 _ _ _ _).mono ?_; rintro e w' ⟨rfl,rfl⟩)
     exact ⟨⟨i+1,by omega,by go_num,Zc2 he.out HR.out,hb⟩,by simp [intOf]; omega⟩
    ·obtain ⟨m,rfl⟩:∃ m,i=m+1:=⟨i-1,by omega⟩
     obtain ⟨y,gy⟩:=ZcJ (xs:=xs) (i:=m) (by omega)
     obtain ⟨b,off,rfl,hbb,c0⟩:=(hx.below hb).int gx
     obtain ⟨b',off',hA,_,c1⟩:=(hx.below hb).int gy
     obtain ⟨rfl,rfl⟩:b=b'∧off=off':=by simpa using hA
     clear hA
     by_cases hlt2:x<y
     ·have HR:=Lib.hid (ZfJ hlt (Zjy gy gx hlt2))
      clear gx hx gy
      go_wp2_with (go_at_call 114; refine (Ze4 _ _ _ _).mono ?_; rintro e w' ⟨rfl,rfl⟩)
      go_ret
      exact ⟨retb HR.out.symm,hb⟩
     ·have HR:=Lib.hid (Znt gy gx hin hlt2)
      clear gx hx gy
      go_wp2_with (go_at_call 114; refine (Ze4 _ _ _ _).mono ?_; rintro e w' ⟨rfl,rfl⟩)
      exact ⟨⟨m+2,by omega,by go_num,Zc2 he.out HR.out,hb⟩,by simp [intOf]; omega⟩
  ·obtain rfl:i=xs.length:=by omega
   have HR:=Lib.hid (Zlf he.out)
   clear hx
   go_wp2_with (go_at_call 114; refine (Ze4 _ _ _ _).mono ?_; rintro e w' ⟨rfl,rfl⟩)
   go_ret
   exact ⟨retb HR.out.symm,hb⟩
theorem ZhN (A:Option Addr) (c:Nat) (xs:List Int) (w:World) (hx:Rd w w.heap.size A xs) (hn:xs.length≤2000000):
 Calls Tryz.prog 64 #[.slice A xs.length c] w fun e w'=>e=.returned (.bool (Zhp xs))∧Below w.heap.size w w':=by
 go_enter Tryz.func64,Tryz.ntmps64
 go_wp2
 go_loopw [3] (fun i wr=>∃ j:Nat,j≤xs.length∧i=.int .i64 j∧Hid (ZfR j (Zho xs)=true)∧Below w.heap.size w wr) (fun i _=>xs.length-(intOf i).toNat)
 case atStart=>exact ⟨0,by omega,rfl,Zf8 _,Below.refl _ _⟩
 case round=>
  obtain ⟨i,hi,rfl,he,hb⟩:=hrel
  by_cases hlt:i<xs.length
  ·obtain ⟨x,gx⟩:=ZcJ hlt
   cases hin:inB x 0 100 with
   | false=>
    obtain ⟨b,off,rfl,hbb,c0⟩:=(hx.below hb).int gx
    have HR:=Lib.hid (ZfJ hlt (Zle gx hin))
    clear gx hx
    go_wp2
    go_quiet ((go_at_call 101; exact ZnA (Zgh _ _ _ _)))
    go_wp2
    go_ret
    exact ⟨retb HR.out.symm,ZmJ hb _⟩
   | true=>
    rcases Nat.eq_zero_or_pos i with h0' | h0
    ·have h0:i≤0:=by omega
     clear h0'
     obtain ⟨b,off,rfl,hbb,c0⟩:=(hx.below hb).int gx
     have HR:=Lib.hid (Zjz h0 gx hin)
     clear gx hx
     have d0:decide ((0:Int)<(i:Int))=false:=by simp; omega
     have d1:decide (0<i)=false:=by simp; omega
     go_wp2
     go_quiet ((go_at_call 101; exact ZnA (Zgh _ _ _ _)))
     go_wp2
     exact ⟨⟨i+1,by omega,by go_num,Zc2 he.out HR.out,ZmJ hb _⟩,by simp [intOf]; omega⟩
    ·obtain ⟨m,rfl⟩:∃ m,i=m+1:=⟨i-1,by omega⟩
     obtain ⟨y,gy⟩:=ZcJ (xs:=xs) (i:=m) (by omega)
     obtain ⟨b,off,rfl,hbb,c0⟩:=(hx.below hb).int gx
     obtain ⟨b',off',hA,_,c1⟩:=(hx.below hb).int gy
     obtain ⟨rfl,rfl⟩:b=b'∧off=off':=by simpa using hA
     clear hA
     by_cases hlt2:x<y
     ·have HR:=Lib.hid (ZfJ hlt (Zjy gy gx hlt2))
      clear gx hx gy
      go_wp2
      go_quiet ((go_at_call 101; exact ZnA (Zgh _ _ _ _)))
      go_wp2
      go_ret
      exact ⟨retb HR.out.symm,ZmJ hb _⟩
     ·have HR:=Lib.hid (Znt gy gx hin hlt2)
      clear gx hx gy
      go_wp2
      go_quiet ((go_at_call 101; exact ZnA (Zgh _ _ _ _)))
      go_wp2
      exact ⟨⟨m+2,by omega,by go_num,Zc2 he.out HR.out,ZmJ hb _⟩,by simp [intOf]; omega⟩
  ·obtain rfl:i=xs.length:=by omega
   have HR:=Lib.hid (Zlf he.out)
   clear hx
   go_wp2_with (go_at_call 101; refine (Zgh _ _ _ _).mono ?_; rintro e w' ⟨rfl,rfl⟩)
   go_ret
   exact ⟨retb HR.out.symm,hb⟩
theorem Zgx (o k a t:Int) (w:World):Calls Tryz.prog 125 #[.agg #[.int .i64 o,.int .i64 k,.int .i64 a,.int .i64 t]] w fun e w'=>e=.returned (.bool (ZgA o k a t))∧Below w.heap.size w w':=by
 go_enter Tryz.func125,Tryz.ntmps125
 go_wp2_with (go_at_call 114; refine (Ze4 _ _ _ _).mono ?_; rintro e w' ⟨rfl,rfl⟩)
 all_goals go_ret
 all_goals exact ⟨by simp [ZgA, *],(Below.refl _ _).alloc (Nat.le_refl _) _⟩
theorem Zgy (o k a t:Int) (w:World):Calls Tryz.prog 108 #[.agg #[.int .i64 o,.int .i64 k,.int .i64 a,.int .i64 t]] w fun e w'=>e=.returned (.bool (ZgA o k a t))∧Below w.heap.size w w':=by
 go_enter Tryz.func108,Tryz.ntmps108
 go_wp2_with (go_at_call 101; refine (Zgh _ _ _ _).mono ?_; rintro e w' ⟨rfl,rfl⟩)
 all_goals go_ret
 all_goals exact ⟨by simp [ZgA, *],(Below.refl _ _).alloc (Nat.le_refl _) _⟩
theorem ZjH (A:Option Addr) (xs:List Ln) (c:Nat) (o k:Int) (w:World) (hr:Rd w w.heap.size A xs) (hn:xs.length≤2000000)
 : Calls Tryz.prog 80 #[.slice A xs.length c,.int .i64 o,.int .i64 k] w fun e w'=>e=.returned (.int .i64 (ZaV xs o k))∧Up w w':=by
 go_enter Tryz.func80,Tryz.ntmps80
 go_wp2
 go_loopw [7,12] (fun n7 i wr=>∃ j:Nat,j≤xs.length∧i=.int .i64 j∧n7=.int .i64 (ZaV (xs.take j) o k)∧Up w wr) (fun _ i _=>xs.length-(intOf i).toNat)
 case atStart=>exact ⟨0,by omega,rfl,rfl,Below.refl _ _⟩
 case round=>
  obtain ⟨i,hi,rfl,rfl,hb⟩:=hrel
  by_cases hlt:i<xs.length
  ·obtain ⟨x,hx⟩:=ZcJ hlt
   obtain ⟨b,off,rfl,hbb,c0,c1,c2,c3⟩:=(hr.below hb).ln hx
   have hbs:=hb.size
   have S:Hid (ZaV (xs.take (i+1)) o k=ZfO o k (ZaV (xs.take i) o k) x):=Zgb hx _ _
   clear hr hx
   go_wp2
   all_goals exact ⟨⟨i+1,by omega,by go_num,by rw [S.out]; simp [ZfO, *],by (repeat (first | exact Up.rfl' _ | (refine Up.al _ ?_) | (refine Up.dr _ ?_) | (refine Up.dr1 ?_) | (refine Up.sc ?_ (by first | exact Nat.le_refl _ | (simp; done) | omega) _) | (refine Up.step (by assumption) ?_)))⟩,by simp [intOf]; omega⟩
  ·go_wp2
   go_ret
   obtain rfl:i=xs.length:=by omega
   exact ⟨by simp,hb⟩
theorem ZjI (A:Option Addr) (xs:List Ln) (c:Nat) (o k:Int) (w:World) (hr:Rd w w.heap.size A xs) (hn:xs.length≤2000000)
 : Calls Tryz.prog 109 #[.slice A xs.length c,.int .i64 o,.int .i64 k] w fun e w'=>e=.returned (.int .i64 (ZaV xs o k))∧Up w w':=by
 go_enter Tryz.func109,Tryz.ntmps109
 go_wp2
 go_loopw [7,8] (fun n7 i wr=>∃ j:Nat,j≤xs.length∧i=.int .i64 j∧n7=.int .i64 (ZaV (xs.take j) o k)∧Up w wr) (fun _ i _=>xs.length-(intOf i).toNat)
 case atStart=>exact ⟨0,by omega,rfl,rfl,Below.refl _ _⟩
 case round=>
  obtain ⟨i,hi,rfl,rfl,hb⟩:=hrel
  by_cases hlt:i<xs.length
  ·obtain ⟨x,hx⟩:=ZcJ hlt
   obtain ⟨b,off,rfl,hbb,c0,c1,c2,c3⟩:=(hr.below hb).ln hx
   have hbs:=hb.size
   have S:Hid (ZaV (xs.take (i+1)) o k=ZfO o k (ZaV (xs.take i) o k) x):=Zgb hx _ _
   clear hr hx
   go_wp2
   all_goals exact ⟨⟨i+1,by omega,by go_num,by rw [S.out]; simp [ZfO, *],by (repeat (first | exact Up.rfl' _ | (refine Up.al _ ?_) | (refine Up.dr _ ?_) | (refine Up.dr1 ?_) | (refine Up.sc ?_ (by first | exact Nat.le_refl _ | (simp; done) | omega) _) | (refine Up.step (by assumption) ?_)))⟩,by simp [intOf]; omega⟩
  ·go_wp2
   go_ret
   obtain rfl:i=xs.length:=by omega
   exact ⟨by simp,hb⟩
def Ups (w:World):Type:={w':World // Up w w'}
instance (w:World):Nonempty (Ups w):=⟨⟨w,Up.rfl' w⟩⟩
def Ups.val {w:World} (x:Ups w):World:=x.1
theorem Ups.up {w:World} (x:Ups w):Up w x.val:=x.2
theorem Ups.cell {w:World} {b o:Nat} {v:Value} (h:w.cell? ⟨b,o,none⟩=some v):∀ x:Ups w,x.val.cell? ⟨b,o,none⟩=some v:=
 fun x=>(x.2.cell (p:=⟨b,o,none⟩) (World.block_lt_of_cell? w ⟨b,o,none⟩ h)).trans h
theorem Zh {w w':World} {b o:Nat} {v:Value} (h:w.cell? ⟨b,o,none⟩=some v) (hu:Up w w'):w'.cell? ⟨b,o,none⟩=some v:=Ups.cell h ⟨w',hu⟩
theorem Ups.rd {α:Type} [Enc α] {w:World} {A:Option Addr} {xs:List α} (h:Rd w w.heap.size A xs) (x:Ups w):Rd x.val x.val.heap.size A xs:=h.up x.2
theorem Ups.call {P:Program} {f:FuncId} {args:Array Value} {w:World} {x:Ups w} {v:Value} (h:Calls P f args x.val fun e w'=>e=.returned v∧Up x.val w'):
 Calls P f args x.val fun e w''=>e=.returned v∧∃ y:Ups w,w''=y.val:=
 h.mono fun _ v2 ⟨he,hu⟩=>⟨he,⟨v2,Up.step hu x.2⟩,rfl⟩
theorem ZU {P:Program} {id:Nat} {Q:Exit→Act→World→Prop} {a:Act} {w:World} {l:List Oper} (hm:P.follows .mixedOrders=true) (hB:Region.lexB .any l.toArray=true)
 (h:wpQuiet P l.toArray (fun w'=>∃ x:Ups w,w'=x.val) (fun a'=>∀ w',Up w w'→Q .normal a' w') l a):(Code.region id l.toArray true).wp P Q a w:=by
 refine wp_region_quiet (C:=fun w'=>∃ x:Ups w,w'=x.val) hm hB ⟨⟨_,Up.dr1 (Up.rfl' w)⟩,rfl⟩ ?_
 have e:(fun a'=>∀ w',(∃ x:Ups w,w'=x.val)→Q .normal a' w')=(fun a'=>∀ w',Up w w'→Q .normal a' w'):=by
  funext a'
  refine propext ⟨fun h w' hu=>h w' ⟨⟨w',hu⟩,rfl⟩,fun h w' hx=>?_⟩
  obtain ⟨x,rfl⟩:=hx
  exact h _ x.2
 rw [e]
 simpa using h
theorem Zeg (A:Option Addr) (xs:List Ln) (n c:Nat) (o k:Int) (w:World) (hr:Rd w w.heap.size A xs) (hl:n=xs.length) (hn:n≤2000000)
 : Calls Tryz.prog 80 #[.slice A n c,.int .i64 o,.int .i64 k] w fun e w'=>e=.returned (.int .i64 (ZaV xs o k))∧Up w w':=by
 subst hl; exact ZjH A xs c o k w hr hn
set_option maxHeartbeats 1600000 in
theorem ZjJ (A:Option Addr) (xs:List Ln) (c:Nat) (w:World) (hr:Rd w w.heap.size A xs) (hc:xs.length≤c) (hn:xs.length≤2000000)
 : Calls Tryz.prog 78 #[.slice A xs.length c] w fun e w'=>e=.returned (.bool (ZeI xs))∧Up w w':=by
 by_cases h200:xs.length≤200
 ·go_enter Tryz.func78,Tryz.ntmps78
  go_wp2
  go_loopw [12] (fun i wr=>∃ j:Nat,j≤xs.length∧i=.int .i64 j∧Hid (ZfR j (Zfz xs)=true)∧Up w wr) (fun i _=>xs.length-(intOf i).toNat)
  case atStart=>exact ⟨0,by omega,rfl,Zf8 _,by (repeat (first | exact Up.rfl' _ | (refine Up.al _ ?_) | (refine Up.dr _ ?_) | (refine Up.dr1 ?_) | (refine Up.sc ?_ (by first | exact Nat.le_refl _ | (simp; done) | omega) _) | (refine Up.step (by assumption) ?_)))⟩
  case round=>
   obtain ⟨i,hi,rfl,he,hb⟩:=hrel
   by_cases hlt:i<xs.length
   ·obtain ⟨x,gx⟩:=ZcJ hlt
    obtain ⟨b,off,rfl,hbb,c0,c1,c2,c3⟩:=(hr.below hb).ln gx
    have Gx:=Lib.hid gx
    clear gx
    go_wp2
    generalize hwb:wr.alloc (.cells #[I x.o,I x.k,I x.a,I x.t] 113)=wb
    have d0:wb.cell? ⟨wr.heap.size,0,none⟩=some (I x.o):=by rw [← hwb]; simp [go_sem]
    have d1:wb.cell? ⟨wr.heap.size,1,none⟩=some (I x.k):=by rw [← hwb]; simp [go_sem]
    have d2:wb.cell? ⟨wr.heap.size,2,none⟩=some (I x.a):=by rw [← hwb]; simp [go_sem]
    have d3:wb.cell? ⟨wr.heap.size,3,none⟩=some (I x.t):=by rw [← hwb]; simp [go_sem]
    have hub:Up wr wb:=by rw [← hwb]; (repeat (first | exact Up.rfl' _ | (refine Up.al _ ?_) | (refine Up.dr _ ?_) | (refine Up.dr1 ?_) | (refine Up.sc ?_ (by first | exact Nat.le_refl _ | (simp; done) | omega) _) | (refine Up.step (by assumption) ?_)))
    clear hwb c0 c1 c2 c3
    go_cut [12,34] (fun s12 s34 wx=>s12=.int .i64 i∧s34=.bool (Zgt xs i x)∧Up wb wx)
    case first=>
     cases hL:ZgA x.o x.k x.a x.t with
     | false=>
      have HB:=Lib.hid (ZmG (xs:=xs) (i:=i) hL)
      (have Ed0:=Ups.cell d0; have Ed1:=Ups.cell d1; have Ed2:=Ups.cell d2; have Ed3:=Ups.cell d3; refine ZU (by kernel_rfl) (by kernel_rfl) ?_; (repeat (go_big_quiet_step ((go_at_call 125; exact Ups.call (Zgx _ _ _ _ _))))); refine wpQuiet_nil ?_; intro wq1 hq1; clear Ed0 Ed1 Ed2 Ed3; replace d0:=Zh d0 hq1; replace d1:=Zh d1 hq1; replace d2:=Zh d2 hq1; replace d3:=Zh d3 hq1)
      go_wp2
      go_meet
      exact ⟨rfl,by rw [HB.out],by (repeat (first | exact Up.rfl' _ | (refine Up.al _ ?_) | (refine Up.dr _ ?_) | (refine Up.dr1 ?_) | (refine Up.sc ?_ (by first | exact Nat.le_refl _ | (simp; done) | omega) _) | (refine Up.step (by assumption) ?_)))⟩
     | true=>
      rcases Nat.eq_zero_or_pos i with h0' | h0
      ·have h0:i≤0:=by omega
       clear h0'
       have HB:=Lib.hid (Zkt (xs:=xs) hL h0)
       have t0:decide ((0:Int)<(i:Int))=false:=decide_eq_false (by omega)
       have t1:decide (0<i)=false:=decide_eq_false (by omega)
       (have Ed0:=Ups.cell d0; have Ed1:=Ups.cell d1; have Ed2:=Ups.cell d2; have Ed3:=Ups.cell d3; refine ZU (by kernel_rfl) (by kernel_rfl) ?_; (repeat (go_big_quiet_step ((go_at_call 125; exact Ups.call (Zgx _ _ _ _ _))))); refine wpQuiet_nil ?_; intro wq1 hq1; clear Ed0 Ed1 Ed2 Ed3; replace d0:=Zh d0 hq1; replace d1:=Zh d1 hq1; replace d2:=Zh d2 hq1; replace d3:=Zh d3 hq1)
       go_wp2
       go_meet
       exact ⟨rfl,by rw [HB.out],by (repeat (first | exact Up.rfl' _ | (refine Up.al _ ?_) | (refine Up.dr _ ?_) | (refine Up.dr1 ?_) | (refine Up.sc ?_ (by first | exact Nat.le_refl _ | (simp; done) | omega) _) | (refine Up.step (by assumption) ?_)))⟩
      ·obtain ⟨m,rfl⟩:∃ m,i=m+1:=⟨i-1,by omega⟩
       obtain ⟨y,gy⟩:=ZcJ (xs:=xs) (i:=m) (by omega)
       obtain ⟨b',off',hA,_,_,_,_,p3⟩:=((hr.up hb).up hub).ln gy
       obtain ⟨rfl,rfl⟩:b=b'∧off=off':=by simpa using hA
       have HB:=Lib.hid (ZmH (x:=x) hL gy)
       clear hA gy hr
       have t0:decide ((0:Int)<(m:Int)+1)=true:=decide_eq_true (by omega)
       have t1:decide (0<m+1)=true:=by simp
       have wm:IntKind.i64.wrap (m:Int)=m:=IntWalk.i64_in _ (by omega)
       have wm1:IntKind.i64.wrap ((m:Int)+1-1)=m:=by rw [IntWalk.i64_in _ (by omega)]; omega
       have bm0:(0:Int)≤(m:Int):=by omega
       have bm1:(m:Int)<(xs.length:Int):=by omega
       (have Ed0:=Ups.cell d0; have Ed1:=Ups.cell d1; have Ed2:=Ups.cell d2; have Ed3:=Ups.cell d3; have Ep3:=Ups.cell p3; refine ZU (by kernel_rfl) (by kernel_rfl) ?_; (repeat (go_big_quiet_step ((go_at_call 125; exact Ups.call (Zgx _ _ _ _ _))))); refine wpQuiet_nil ?_; intro wq1 hq1; clear Ed0 Ed1 Ed2 Ed3 Ep3; replace d0:=Zh d0 hq1; replace d1:=Zh d1 hq1; replace d2:=Zh d2 hq1; replace d3:=Zh d3 hq1; replace p3:=Zh p3 hq1)
       go_wp2
       go_meet
       exact ⟨by go_num,by rw [HB.out],by (repeat (first | exact Up.rfl' _ | (refine Up.al _ ?_) | (refine Up.dr _ ?_) | (refine Up.dr1 ?_) | (refine Up.sc ?_ (by first | exact Nat.le_refl _ | (simp; done) | omega) _) | (refine Up.step (by assumption) ?_)))⟩
    case rest=>
     obtain ⟨rfl,rfl,hbc⟩:=hcut
     replace d0:=Zh d0 hbc
     replace d1:=Zh d1 hbc
     replace d2:=Zh d2 hbc
     replace d3:=Zh d3 hbc
     cases hbad:Zgt xs i x with
     | true=>
      have HR:=Lib.hid (Zjv Gx.out hbad)
      go_wp2
      go_ret
      exact ⟨retb HR.out.symm,by (repeat (first | exact Up.rfl' _ | (refine Up.al _ ?_) | (refine Up.dr _ ?_) | (refine Up.dr1 ?_) | (refine Up.sc ?_ (by first | exact Nat.le_refl _ | (simp; done) | omega) _) | (refine Up.step (by assumption) ?_)))⟩
     | false=>
      have bi0:(0:Int)≤(i:Int):=by omega
      have bi1:(i:Int)≤(c:Int):=by omega
      have bc0:¬ c=0:=by omega
      have hrc:=(hr.up (show Up w wc by (repeat (first | exact Up.rfl' _ | (refine Up.al _ ?_) | (refine Up.dr _ ?_) | (refine Up.dr1 ?_) | (refine Up.sc ?_ (by first | exact Nat.le_refl _ | (simp; done) | omega) _) | (refine Up.step (by assumption) ?_))))).take_ i
      have hli:i=(xs.take i).length:=by simp; omega
      have HR:=Lib.hid hrc
      have HL:=Lib.hid hli
      have HK:=Lib.hid (Zpq (ZgB hbad))
      have HBad:=Lib.hid hbad
      clear hrc hli hr hbad
      go_wp2
      (have Ed0:=Ups.cell d0; have Ed1:=Ups.cell d1; have Ed2:=Ups.cell d2; have Ed3:=Ups.cell d3; refine ZU (by kernel_rfl) (by kernel_rfl) ?_; (repeat (go_big_quiet_step ((go_at_call 80; exact Ups.call (Zeg _ (xs.take i) _ _ _ _ _ (HR.out.up (Up.step (Ups.up _) (by (repeat (first | exact Up.rfl' _ | (refine Up.al _ ?_) | (refine Up.dr _ ?_) | (refine Up.dr1 ?_) | (refine Up.sc ?_ (by first | exact Nat.le_refl _ | (simp; done) | omega) _) | (refine Up.step (by assumption) ?_)))))) HL.out (by omega)))))); refine wpQuiet_nil ?_; intro wq1 hq1; clear Ed0 Ed1 Ed2 Ed3; replace d0:=Zh d0 hq1; replace d1:=Zh d1 hq1; replace d2:=Zh d2 hq1; replace d3:=Zh d3 hq1)
      go_wp2
      (have Ed0:=Ups.cell d0; have Ed1:=Ups.cell d1; have Ed2:=Ups.cell d2; have Ed3:=Ups.cell d3; refine ZU (by kernel_rfl) (by kernel_rfl) ?_; (repeat (go_big_quiet_step ((go_at_call 80; exact Ups.call (Zeg _ (xs.take i) _ _ _ _ _ (HR.out.up (Up.step (Ups.up _) (by (repeat (first | exact Up.rfl' _ | (refine Up.al _ ?_) | (refine Up.dr _ ?_) | (refine Up.dr1 ?_) | (refine Up.sc ?_ (by first | exact Nat.le_refl _ | (simp; done) | omega) _) | (refine Up.step (by assumption) ?_)))))) HL.out (by omega)))))); refine wpQuiet_nil ?_; intro wq2 hq2; clear Ed0 Ed1 Ed2 Ed3; replace d0:=Zh d0 hq2; replace d1:=Zh d1 hq2; replace d2:=Zh d2 hq2; replace d3:=Zh d3 hq2)
      rcases HK.out with hk | hk | hk
      ·have k1:(x.k == 1)=true:=by simp [hk]
       have hfit:=fit1 (b:=xs.take i) hk
       clear hk
       cases h1:decide (0<ZaV (xs.take i) x.o 1) with
       | true=>
        have HF:=Lib.hid (ZaB Gx.out (hfit.trans (by rw [h1]; rfl)))
        clear hfit
        go_wp2
        go_ret
        exact ⟨retb HF.out.symm,by (repeat (first | exact Up.rfl' _ | (refine Up.al _ ?_) | (refine Up.dr _ ?_) | (refine Up.dr1 ?_) | (refine Up.sc ?_ (by first | exact Nat.le_refl _ | (simp; done) | omega) _) | (refine Up.step (by assumption) ?_)))⟩
       | false=>
        have HF:=Lib.hid (ZfA Gx.out HBad.out (hfit.trans (by rw [h1]; rfl)))
        clear hfit
        go_wp2
        exact ⟨⟨i+1,by omega,by go_num,Zc2 he.out HF.out,by (repeat (first | exact Up.rfl' _ | (refine Up.al _ ?_) | (refine Up.dr _ ?_) | (refine Up.dr1 ?_) | (refine Up.sc ?_ (by first | exact Nat.le_refl _ | (simp; done) | omega) _) | (refine Up.step (by assumption) ?_)))⟩,by simp [intOf]; omega⟩
      ·have k1:(x.k == 1)=false:=by simp [hk]
       have k2:(x.k == 2)=true:=by simp [hk]
       have hfit:=fit2 (b:=xs.take i) hk
       clear hk
       cases h1:decide (ZaV (xs.take i) x.o 1<wrap64 (ZaV (xs.take i) x.o 2+x.a)) with
       | true=>
        have HF:=Lib.hid (ZaB Gx.out (hfit.trans (by rw [h1]; rfl)))
        clear hfit
        go_wp2
        go_ret
        exact ⟨retb HF.out.symm,by (repeat (first | exact Up.rfl' _ | (refine Up.al _ ?_) | (refine Up.dr _ ?_) | (refine Up.dr1 ?_) | (refine Up.sc ?_ (by first | exact Nat.le_refl _ | (simp; done) | omega) _) | (refine Up.step (by assumption) ?_)))⟩
       | false=>
        have HF:=Lib.hid (ZfA Gx.out HBad.out (hfit.trans (by rw [h1]; rfl)))
        clear hfit
        go_wp2
        exact ⟨⟨i+1,by omega,by go_num,Zc2 he.out HF.out,by (repeat (first | exact Up.rfl' _ | (refine Up.al _ ?_) | (refine Up.dr _ ?_) | (refine Up.dr1 ?_) | (refine Up.sc ?_ (by first | exact Nat.le_refl _ | (simp; done) | omega) _) | (refine Up.step (by assumption) ?_)))⟩,by simp [intOf]; omega⟩
      ·have k1:(x.k == 1)=false:=by simp [hk]
       have k2:(x.k == 2)=false:=by simp [hk]
       have k3:(x.k == 3)=true:=by simp [hk]
       have hfit:=fit3 (b:=xs.take i) hk
       clear hk
       cases h1:decide (0<ZaV (xs.take i) x.o 3) with
       | true=>
        have HF:=Lib.hid (ZaB Gx.out (hfit.trans (by rw [h1]; rfl)))
        clear hfit
        go_wp2
        (have Ed0:=Ups.cell d0; have Ed1:=Ups.cell d1; have Ed2:=Ups.cell d2; have Ed3:=Ups.cell d3; refine ZU (by kernel_rfl) (by kernel_rfl) ?_; (repeat (go_big_quiet_step ((go_at_call 80; exact Ups.call (Zeg _ (xs.take i) _ _ _ _ _ (HR.out.up (Up.step (Ups.up _) (by (repeat (first | exact Up.rfl' _ | (refine Up.al _ ?_) | (refine Up.dr _ ?_) | (refine Up.dr1 ?_) | (refine Up.sc ?_ (by first | exact Nat.le_refl _ | (simp; done) | omega) _) | (refine Up.step (by assumption) ?_)))))) HL.out (by omega)))))); refine wpQuiet_nil ?_; intro wq3 hq3; clear Ed0 Ed1 Ed2 Ed3; replace d0:=Zh d0 hq3; replace d1:=Zh d1 hq3; replace d2:=Zh d2 hq3; replace d3:=Zh d3 hq3)
        go_wp2
        go_ret
        exact ⟨retb HF.out.symm,by (repeat (first | exact Up.rfl' _ | (refine Up.al _ ?_) | (refine Up.dr _ ?_) | (refine Up.dr1 ?_) | (refine Up.sc ?_ (by first | exact Nat.le_refl _ | (simp; done) | omega) _) | (refine Up.step (by assumption) ?_)))⟩
       | false=>
       cases h2:(ZaV (xs.take i) x.o 2 != ZaV (xs.take i) x.o 1) with
       | true=>
        have HF:=Lib.hid (ZaB Gx.out (hfit.trans (by rw [h1]; simp at h2; simp [h2])))
        clear hfit
        go_wp2
        (have Ed0:=Ups.cell d0; have Ed1:=Ups.cell d1; have Ed2:=Ups.cell d2; have Ed3:=Ups.cell d3; refine ZU (by kernel_rfl) (by kernel_rfl) ?_; (repeat (go_big_quiet_step ((go_at_call 80; exact Ups.call (Zeg _ (xs.take i) _ _ _ _ _ (HR.out.up (Up.step (Ups.up _) (by (repeat (first | exact Up.rfl' _ | (refine Up.al _ ?_) | (refine Up.dr _ ?_) | (refine Up.dr1 ?_) | (refine Up.sc ?_ (by first | exact Nat.le_refl _ | (simp; done) | omega) _) | (refine Up.step (by assumption) ?_)))))) HL.out (by omega)))))); refine wpQuiet_nil ?_; intro wq3 hq3; clear Ed0 Ed1 Ed2 Ed3; replace d0:=Zh d0 hq3; replace d1:=Zh d1 hq3; replace d2:=Zh d2 hq3; replace d3:=Zh d3 hq3)
        go_wp2
        go_ret
        exact ⟨retb HF.out.symm,by (repeat (first | exact Up.rfl' _ | (refine Up.al _ ?_) | (refine Up.dr _ ?_) | (refine Up.dr1 ?_) | (refine Up.sc ?_ (by first | exact Nat.le_refl _ | (simp; done) | omega) _) | (refine Up.step (by assumption) ?_)))⟩
       | false=>
       cases h3:decide (ZaV (xs.take i) x.o 1<x.a) with
       | true=>
        have HF:=Lib.hid (ZaB Gx.out (hfit.trans (by rw [h1,h3]; simp)))
        clear hfit
        go_wp2
        (have Ed0:=Ups.cell d0; have Ed1:=Ups.cell d1; have Ed2:=Ups.cell d2; have Ed3:=Ups.cell d3; refine ZU (by kernel_rfl) (by kernel_rfl) ?_; (repeat (go_big_quiet_step ((go_at_call 80; exact Ups.call (Zeg _ (xs.take i) _ _ _ _ _ (HR.out.up (Up.step (Ups.up _) (by (repeat (first | exact Up.rfl' _ | (refine Up.al _ ?_) | (refine Up.dr _ ?_) | (refine Up.dr1 ?_) | (refine Up.sc ?_ (by first | exact Nat.le_refl _ | (simp; done) | omega) _) | (refine Up.step (by assumption) ?_)))))) HL.out (by omega)))))); refine wpQuiet_nil ?_; intro wq3 hq3; clear Ed0 Ed1 Ed2 Ed3; replace d0:=Zh d0 hq3; replace d1:=Zh d1 hq3; replace d2:=Zh d2 hq3; replace d3:=Zh d3 hq3)
        go_wp2
        go_ret
        exact ⟨retb HF.out.symm,by (repeat (first | exact Up.rfl' _ | (refine Up.al _ ?_) | (refine Up.dr _ ?_) | (refine Up.dr1 ?_) | (refine Up.sc ?_ (by first | exact Nat.le_refl _ | (simp; done) | omega) _) | (refine Up.step (by assumption) ?_)))⟩
       | false=>
        have HF:=Lib.hid (ZfA Gx.out HBad.out (hfit.trans (by rw [h1,h3]; simp at h2; simp [h2])))
        clear hfit
        go_wp2
        (have Ed0:=Ups.cell d0; have Ed1:=Ups.cell d1; have Ed2:=Ups.cell d2; have Ed3:=Ups.cell d3; refine ZU (by kernel_rfl) (by kernel_rfl) ?_; (repeat (go_big_quiet_step ((go_at_call 80; exact Ups.call (Zeg _ (xs.take i) _ _ _ _ _ (HR.out.up (Up.step (Ups.up _) (by (repeat (first | exact Up.rfl' _ | (refine Up.al _ ?_) | (refine Up.dr _ ?_) | (refine Up.dr1 ?_) | (refine Up.sc ?_ (by first | exact Nat.le_refl _ | (simp; done) | omega) _) | (refine Up.step (by assumption) ?_)))))) HL.out (by omega)))))); refine wpQuiet_nil ?_; intro wq3 hq3; clear Ed0 Ed1 Ed2 Ed3; replace d0:=Zh d0 hq3; replace d1:=Zh d1 hq3; replace d2:=Zh d2 hq3; replace d3:=Zh d3 hq3)
        go_wp2
        exact ⟨⟨i+1,by omega,by go_num,Zc2 he.out HF.out,by (repeat (first | exact Up.rfl' _ | (refine Up.al _ ?_) | (refine Up.dr _ ?_) | (refine Up.dr1 ?_) | (refine Up.sc ?_ (by first | exact Nat.le_refl _ | (simp; done) | omega) _) | (refine Up.step (by assumption) ?_)))⟩,by simp [intOf]; omega⟩
   ·obtain rfl:i=xs.length:=by omega
    have HR:=Lib.hid (Zju h200 he.out)
    go_wp2
    go_ret
    exact ⟨retb HR.out.symm,by (repeat (first | exact Up.rfl' _ | (refine Up.al _ ?_) | (refine Up.dr _ ?_) | (refine Up.dr1 ?_) | (refine Up.sc ?_ (by first | exact Nat.le_refl _ | (simp; done) | omega) _) | (refine Up.step (by assumption) ?_)))⟩
 ·have HR:=Lib.hid (Ziw h200)
  go_enter Tryz.func78,Tryz.ntmps78
  go_wp2
  go_ret
  exact ⟨retb HR.out.symm,by (repeat (first | exact Up.rfl' _ | (refine Up.al _ ?_) | (refine Up.dr _ ?_) | (refine Up.dr1 ?_) | (refine Up.sc ?_ (by first | exact Nat.le_refl _ | (simp; done) | omega) _) | (refine Up.step (by assumption) ?_)))⟩
end Go.Proofs.YtkcnllbmpbhndaaGreat
