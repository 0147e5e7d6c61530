/- A part of the proof of the statement in the last file of this claim: texts on the language of the program and on its functions. No condition. -/
import Derived.Test.YtdilaemengjipaaGreatDoorCA14
import Derived.Test.YtdilaemengjipaaGreatDoorCA1
set_option linter.unusedVariables false
set_option linter.unusedSimpArgs false
set_option linter.unusedSectionVars false
open Option renaming some->YH,none->YI
open Bool renaming true->YJ,false->YK
open Decidable renaming decide->YL
open Go.Proofs.Tryz
namespace Go.Proofs.YtdilaemengjipaaGreatDoor
set_option maxRecDepth 10000
open Go.RowKit
variable {w w':World}
theorem IZ{b:Nat}:¬np (λ_=>YI) b:=by rintro⟨l,B,h,_⟩;cases h
theorem fL.val{P:Program}{f:FuncId}{args:List PV}{val:Value}(h:fL P f args [] (.v val) []){w:World}(ht:Dn w (np λ_=>YI)){vs:Array Value}(hl:vs.size=args.length)(ha:∀(i:Nat) (p:PV),args[i]?=YH p->∃x,vs[i]?=YH x/\dE w (E1 (λb=>b<w.heap.size) (λ_=>YI) 0) p x):
 Calls P f vs w λe w'=>e=.returned val/\Up w w':=by
 have hok:Ok w (np λ_=>YI) (E1 (λb=>b<w.heap.size) (λ_=>YI) 0) w []:=
  ⟨Dp.refl _ _,λb h=>h,λl B h=>Yj,λl l' B B' h=>Yj,λl h=>absurd h (Nat.not_lt_zero l),λl B h=>Yj,λl mb h=>(by simp at h),λl B h=>Yj,ht,λ_ _ h=>h.elim⟩
 refine(h (λb=>b<w.heap.size) (λ_=>YI) w vs (λ_ _=>False) hok hl ha).mono ?_
 rintro e w' ⟨v,E',rfl,hk,_,_,_,hr⟩;obtain⟨rfl,_⟩:=hr.gW;exact⟨rfl,hk.up.os,hk.up.tape,hk.up.output,hk.up.size,λb hb=>hk.up.block b hb IZ⟩
theorem ZaE(h:Qd w)(he:∀b,b<w.heap.size->w'.heap[b]?=w.heap[b]?):Qd w':=by
 unfold Qd Lib.TabIs World.var? at *
 cases hg : prog.globalNamed "internal/strconv.uint64pow10" with
 |none=>rw[hg]at h;cases h
 |some g=>
  rw[hg]at h
  simp only[Option.bind_some]at h⊢
  have bU:g<w.heap.size:=by
   rcases Nat.lt_or_ge g w.heap.size with h'|h'
   ·exact h'
   ·rw[Array.getElem?_eq_none h']at h;cases h
  rw[he g bU];exact h
theorem ZaD(h:TabF w)(he:∀b,b<w.heap.size->w'.heap[b]?=w.heap[b]?):TabF w':=ZaE h he
theorem tab_of_F(h:TabF w):Dn w (np λ_=>YI):=⟨λb=>b<w.heap.size,λb hb=>⟨hb,IZ⟩,λw' hw'=>ZaD h hw'⟩
end Go.Proofs.YtdilaemengjipaaGreatDoor
