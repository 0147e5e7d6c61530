/- A part of the proof of the statement in the last file of this claim: texts on the language of the program and on its functions. No condition. -/
import Derived.Test.YtbalgkakkoocjaaGreatCJ15
import Derived.Test.YtbalgkakkoocjaaGreatCJ13
import Derived.Test.YtbalgkakkoocjaaGreatCJ11
import Derived.Test.YtbalgkakkoocjaaGreatCJ1
set_option linter.unusedVariables false
set_option linter.unusedSimpArgs false
set_option linter.unusedSectionVars false
open Go.Value renaming int->ZF
open Go.IntKind renaming i64->ZG
open Go renaming undef->ZH
open Option renaming some->ZA,none->ZB
open Bool renaming true->ZC,false->ZD
open Decidable renaming decide->ZE
open Go.Proofs.Tryz
set_option maxHeartbeats 40000000
namespace Go.Proofs.YtbalgkakkoocjaaGreat
set_option maxRecDepth 10000
open Go.RowKit
set_option maxRecDepth 100000
theorem OA{w:World}{E:Env}{p:PV}{u:Value}(hp:cN w E p u):∀(i:Nat) (r:PV),[p][i]?=ZA r->∃x,#[u][i]?=ZA x/\cN w E r x:=by
 intro i r hr
 match i,hr with
 |0,hr=>obtain rfl:=Option.some.inj hr;exact⟨_,rfl,hp⟩
 |n+1,hr=>simp at hr
structure xe(w a:World)(l:List ZJ)(us:Nat->Value)(W:Nat->cL)(B:cL)(v:Value):Prop where
 row:GA a l us W B
 val:v=B.sv
 new:∀q,DA l W B q->w.heap.size<=q
section
variable {w w0 a b:World} {l:List ZJ} {us:Nat->Value} {W:Nat->cL} {B:cL} {v:Value} {O:Nat->Prop}
theorem xe.zZ(h:xe w a l us W B v)(hu:mA O a b)(hO:∀q,DA l W B q->¬O q):xe w b l us W B v:={ h with row:=h.row.cx hu hO}
theorem xe.up(h:xe w a l us W B v)(hu:Up a b):xe w b l us W B v:=h.zZ (mA.of hu) λ_ _ h=>h
theorem xe.vu(h:xe w a l us W B v):cf a (DA l W B) (.sl (l.map ZK)) v:=by rw[h.val];exact h.row.vu λ_ h=>h
theorem xe.rep(h:xe w a l us W B v):cf a (dV a) (.sl (l.map ZK)) v:=h.vu.ext (λb hb=>h.row.lt hb) λ_ _ _=>rfl
theorem xe.mark(h:xe w a l us W B v){k:Int}(hn:l.length<=1048576)(hw:∀o∈l,o.av.bb.length<=1048576)(h0:1<=k)(h1:tn k l<=1000000000):
 Calls prog 25 #[v,ZF ZG k] a λe b=>e=.returned (ZF ZG (tn k l))/\mA (DA l W B) a b:=by
 rw[h.val];refine(h.row.mark hn hw h0 h1).mono ?_;rintro e b ⟨rfl,_,h2⟩;exact⟨rfl,h2⟩
end
section
variable {P:Program} {f:FuncId} {args:List PV}
theorem cq.UQ{l:List ZJ}(h:cq P f args [] (.ms 0) [ZA ⟨⟨48,ZA 3⟩,13,l.map ZK⟩]){w:World}{vs:Array Value}(hl:vs.size=args.length)(ha:∀(i:Nat) (p:PV),args[i]?=ZA p->∃x,vs[i]?=ZA x/\cN w (E1 (dV w) (λ_=>ZB) 0) p x):
 Calls P f vs w λe a=>∃us W B X c,e=.returned (.slice X l.length c)/\Up w a/\xe w a l us W B (.slice X l.length c):=by
 refine(h (dV w) (λ_=>ZB) w vs (λ_ _=>False) (Ji w) hl ha).mono ?_
 rintro e a ⟨v,E,rfl,hk,_,_,⟨_,hω⟩,hr⟩;have ZpH:∀b q,E.ω b q->w.heap.size<=b:=λb q hq=>by
  rcases hω b q hq with h|h|h
  ·exact h.elim
  ·exact h
  ·exact absurd h sr
 obtain⟨us,W,B,rfl,g,s⟩:=Zjs hk (l:=0) (r:=l) rfl hr;have ho:xe w a l us W B B.sv:=⟨g,rfl,λq hq=>(s q hq).new hk (λb=>sr) ZpH⟩
 obtain⟨X,c,e⟩:=bT ho.rep;rw[List.length_map]at e
 rw[e]at ho
 exact⟨us,W,B,X,c,by rw[e],wm hk,ho⟩
end
section
variable {w:World} {l:List ZJ} {u v:Value}
theorem Rx{y z:Int}(hy:ke l y=ZA z)(h:cf w (dV w) (.sl (l.map ZK)) u):
 Calls prog 20 #[u,ZF ZG y] w λe w'=>e=.returned (ZF ZG z)/\Up w w':=by
 have c:=CT.ok (P:=prog) hy;simp only[CT.f,CT.args,CT.m0,CT.res,CT.mem]at c
 exact cq.val c rfl (Ec (.c h) (.c (.v _ rfl)))
theorem Zeh(ht:fP l l=ZA ZC)(h:cf w (dV w) (.sl (l.map ZK)) u)(h':cf w (dV w) (.sl (l.map ZK)) v):
 Calls prog 24 #[u,v] w λe w'=>e=.returned (.bool ZC)/\Up w w':=by
 have c:=CT.ok (P:=prog) ht;simp only[CT.f,CT.args,CT.m0,CT.res,CT.mem]at c
 exact cq.val c rfl (Ec (.c h) (.c h'))
end
end Go.Proofs.YtbalgkakkoocjaaGreat
